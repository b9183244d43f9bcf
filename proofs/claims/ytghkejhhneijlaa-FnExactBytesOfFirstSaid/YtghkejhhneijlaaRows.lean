/-
  No cell of these rows narrows 'for every input' (looked for: loops, veiled, ifaces, maps, wideKeys, modest, calm, conditions, laid).
  DERIVED. THE GIVEN ROWS OF THIS SEAT. 6 by the template 'for every input the law returns true; each argument reads behind the call as it read before'; 0 by the template 'total and deterministic' (their statements: YtghkejhhneijlaaTotals.lean).
  GIVEN WITH THE SEED: the statements are not yours to turn. If you find one false, say at which input.
  Laid BY PROGRAM, IN A SANDBOX (cutbox-rows.mjs): the forced cells as the released guide's own fill.sh prints them over the translation f4f5979ae6f239dd… (all of the seat's roots in one cut). By AI agents, Wed Nov 11 2026. No macro, syntax, notation, axiom, sorry.
-/
import Derived.Test.YtghkejhhneijlaaChecked
import GoSem.Claim
import GoSem.ClaimJoined
import GoSem.ClaimMapViews
import Derived.JoinedTies
import Derived.KernelRfl
namespace Go.Proofs.Ytghkejhhneijlaa
/- THE CELL 'sum', in the pinned program and in every row, IS THE sha256 OF THE DUMP (.gsa) THAT YtghkejhhneijlaaProg.lean LOADS. Nothing in Lean hashes anything: it is a label: what it is worth is what the hold of that sum in a sandbox is worth. -/
noncomputable def Try.pinned : Pinned := { name := "ytghkejhhneijlaa", sum := "f4f5979ae6f239dd62b66f591a1706d615837dff2a1283fd4e32cf3138ae57a2", checked := Try.checked }
namespace Rows
def none {H : Type} : Left H := { results := [], args := [] }

/-- 'laws.FnExactBytesOfFirst': WHATEVER THE INPUT: true; the input reads as it did. -/
def fnExactBytesOfFirstSpec : ChangeSpec := { name := "fnExactBytesOfFirst", fn := fun _ => fun
  | [d1, d2] => { results := [.lit (.bool true)], args := [d1, d2] }
  | _ => none }
def fnExactBytesOfFirstRow : OpenClaim := { program := "ytghkejhhneijlaa", sum := "f4f5979ae6f239dd62b66f591a1706d615837dff2a1283fd4e32cf3138ae57a2", func := "loop.example/g00509/laws.FnExactBytesOfFirst", spec := "fnExactBytesOfFirst", apart := false }
def FnExactBytesOfFirstSaid : Prop := fnExactBytesOfFirstRow.holds Try.pinned (OpenSpec.ofChange fnExactBytesOfFirstSpec)

/-- ITS FALSE NEIGHBOUR: 'it returns false'. Refute it at one input. -/
def fnExactBytesOfFirstWrong : ChangeSpec := { name := "fnExactBytesOfFirst", fn := fun _ => fun
  | [d1, d2] => { results := [.lit (.bool false)], args := [d1, d2] }
  | _ => none }
def FnExactBytesOfFirstWrongFalsely : Prop := fnExactBytesOfFirstRow.holds Try.pinned (OpenSpec.ofChange fnExactBytesOfFirstWrong)

/-- 'laws.FnExactIsQuiescent': WHATEVER THE INPUT: true; the input reads as it did. -/
def fnExactIsQuiescentSpec : ChangeSpec := { name := "fnExactIsQuiescent", fn := fun _ => fun
  | [d] => { results := [.lit (.bool true)], args := [d] }
  | _ => none }
def fnExactIsQuiescentRow : OpenClaim := { program := "ytghkejhhneijlaa", sum := "f4f5979ae6f239dd62b66f591a1706d615837dff2a1283fd4e32cf3138ae57a2", func := "loop.example/g00509/laws.FnExactIsQuiescent", spec := "fnExactIsQuiescent", apart := false }
def FnExactIsQuiescentSaid : Prop := fnExactIsQuiescentRow.holds Try.pinned (OpenSpec.ofChange fnExactIsQuiescentSpec)

/-- ITS FALSE NEIGHBOUR: 'it returns false'. Refute it at one input. -/
def fnExactIsQuiescentWrong : ChangeSpec := { name := "fnExactIsQuiescent", fn := fun _ => fun
  | [d] => { results := [.lit (.bool false)], args := [d] }
  | _ => none }
def FnExactIsQuiescentWrongFalsely : Prop := fnExactIsQuiescentRow.holds Try.pinned (OpenSpec.ofChange fnExactIsQuiescentWrong)

/-- 'laws.FnExactAcknowledgedWereDelivered': WHATEVER THE INPUT: true; the input reads as it did. -/
def fnExactAcknowledgedWereDeliveredSpec : ChangeSpec := { name := "fnExactAcknowledgedWereDelivered", fn := fun _ => fun
  | [d1, d2] => { results := [.lit (.bool true)], args := [d1, d2] }
  | _ => none }
def fnExactAcknowledgedWereDeliveredRow : OpenClaim := { program := "ytghkejhhneijlaa", sum := "f4f5979ae6f239dd62b66f591a1706d615837dff2a1283fd4e32cf3138ae57a2", func := "loop.example/g00509/laws.FnExactAcknowledgedWereDelivered", spec := "fnExactAcknowledgedWereDelivered", apart := false }
def FnExactAcknowledgedWereDeliveredSaid : Prop := fnExactAcknowledgedWereDeliveredRow.holds Try.pinned (OpenSpec.ofChange fnExactAcknowledgedWereDeliveredSpec)

/-- ITS FALSE NEIGHBOUR: 'it returns false'. Refute it at one input. -/
def fnExactAcknowledgedWereDeliveredWrong : ChangeSpec := { name := "fnExactAcknowledgedWereDelivered", fn := fun _ => fun
  | [d1, d2] => { results := [.lit (.bool false)], args := [d1, d2] }
  | _ => none }
def FnExactAcknowledgedWereDeliveredWrongFalsely : Prop := fnExactAcknowledgedWereDeliveredRow.holds Try.pinned (OpenSpec.ofChange fnExactAcknowledgedWereDeliveredWrong)

/-- 'laws.FnExactIsReachable': WHATEVER THE INPUT: true; the input reads as it did. -/
def fnExactIsReachableSpec : ChangeSpec := { name := "fnExactIsReachable", fn := fun _ => fun
  | [d1, d2] => { results := [.lit (.bool true)], args := [d1, d2] }
  | _ => none }
def fnExactIsReachableRow : OpenClaim := { program := "ytghkejhhneijlaa", sum := "f4f5979ae6f239dd62b66f591a1706d615837dff2a1283fd4e32cf3138ae57a2", func := "loop.example/g00509/laws.FnExactIsReachable", spec := "fnExactIsReachable", apart := false }
def FnExactIsReachableSaid : Prop := fnExactIsReachableRow.holds Try.pinned (OpenSpec.ofChange fnExactIsReachableSpec)

/-- ITS FALSE NEIGHBOUR: 'it returns false'. Refute it at one input. -/
def fnExactIsReachableWrong : ChangeSpec := { name := "fnExactIsReachable", fn := fun _ => fun
  | [d1, d2] => { results := [.lit (.bool false)], args := [d1, d2] }
  | _ => none }
def FnExactIsReachableWrongFalsely : Prop := fnExactIsReachableRow.holds Try.pinned (OpenSpec.ofChange fnExactIsReachableWrong)

/-- 'laws.FnExactChargedBytes': WHATEVER THE INPUT: true; the input reads as it did. -/
def fnExactChargedBytesSpec : ChangeSpec := { name := "fnExactChargedBytes", fn := fun _ => fun
  | [d1, d2] => { results := [.lit (.bool true)], args := [d1, d2] }
  | _ => none }
def fnExactChargedBytesRow : OpenClaim := { program := "ytghkejhhneijlaa", sum := "f4f5979ae6f239dd62b66f591a1706d615837dff2a1283fd4e32cf3138ae57a2", func := "loop.example/g00509/laws.FnExactChargedBytes", spec := "fnExactChargedBytes", apart := false }
def FnExactChargedBytesSaid : Prop := fnExactChargedBytesRow.holds Try.pinned (OpenSpec.ofChange fnExactChargedBytesSpec)

/-- ITS FALSE NEIGHBOUR: 'it returns false'. Refute it at one input. -/
def fnExactChargedBytesWrong : ChangeSpec := { name := "fnExactChargedBytes", fn := fun _ => fun
  | [d1, d2] => { results := [.lit (.bool false)], args := [d1, d2] }
  | _ => none }
def FnExactChargedBytesWrongFalsely : Prop := fnExactChargedBytesRow.holds Try.pinned (OpenSpec.ofChange fnExactChargedBytesWrong)

/-- 'laws.FnExactIsServed': WHATEVER THE INPUT: true; the input reads as it did. -/
def fnExactIsServedSpec : ChangeSpec := { name := "fnExactIsServed", fn := fun _ => fun
  | [d1, d2] => { results := [.lit (.bool true)], args := [d1, d2] }
  | _ => none }
def fnExactIsServedRow : OpenClaim := { program := "ytghkejhhneijlaa", sum := "f4f5979ae6f239dd62b66f591a1706d615837dff2a1283fd4e32cf3138ae57a2", func := "loop.example/g00509/laws.FnExactIsServed", spec := "fnExactIsServed", apart := false }
def FnExactIsServedSaid : Prop := fnExactIsServedRow.holds Try.pinned (OpenSpec.ofChange fnExactIsServedSpec)

/-- ITS FALSE NEIGHBOUR: 'it returns false'. Refute it at one input. -/
def fnExactIsServedWrong : ChangeSpec := { name := "fnExactIsServed", fn := fun _ => fun
  | [d1, d2] => { results := [.lit (.bool false)], args := [d1, d2] }
  | _ => none }
def FnExactIsServedWrongFalsely : Prop := fnExactIsServedRow.holds Try.pinned (OpenSpec.ofChange fnExactIsServedWrong)

/- THE SECOND FORM. 'bulk': how many values and letters a reading holds, each counted each time it is reached (what is shared counts as often as it is met; a slice's spare places count too). A statement '..UptoSaid' is the law's where the arguments, and the package variables that the reading takes, are together of bulk at most 1048576: NARROWER than '..Said'. Prove '..Said' where nothing that the law and all that it calls make is longer than what came in: it says more and counts as full. Else prove '..UptoSaid'. A law counts once. -/
mutual
def uptoBulk {H : Type} : DataW H → Nat
  | .lit (.string bytes) => bytes.length + 1
  | .lit _ => 1
  | .nil => 1
  | .ptr d => uptoBulk d + 1
  | .slice elems spare => uptoBulkAll elems + uptoBulkAll spare + 1
  | .agg parts => uptoBulkAll parts + 1
  | .iface _ d => uptoBulk d + 1
  | .map entries => uptoBulkEntries entries + 1
  | .held _ => 1
def uptoBulkAll {H : Type} : List (DataW H) → Nat
  | [] => 0
  | d :: r => uptoBulk d + uptoBulkAll r
def uptoBulkEntries {H : Type} : List (Lit × DataW H) → Nat
  | [] => 0
  | x :: r => uptoBulkEntry x + uptoBulkEntries r
def uptoBulkEntry {H : Type} : Lit × DataW H → Nat
  | (.string bytes, d) => bytes.length + uptoBulk d + 1
  | (_, d) => uptoBulk d + 1
 end
def uptoSmall : (H : Type) → List (DataW H) → Bool := fun _ ds => decide (uptoBulkAll ds ≤ 1048576)
def OpenSpec.upto (s : _root_.Go.ChangeSpec) : _root_.Go.OpenSpec := { _root_.Go.OpenSpec.ofChange s with cond := some uptoSmall }

/-- 'laws.FnExactBytesOfFirst', WHERE WHAT IT READS IS OF BULK AT MOST 1048576: true; the input reads as it did. -/
def fnExactBytesOfFirstUptoRow : OpenClaim := { program := "ytghkejhhneijlaa", sum := "f4f5979ae6f239dd62b66f591a1706d615837dff2a1283fd4e32cf3138ae57a2", func := "loop.example/g00509/laws.FnExactBytesOfFirst", spec := "fnExactBytesOfFirst", apart := false, narrowed := true }
def FnExactBytesOfFirstUptoSaid : Prop := fnExactBytesOfFirstUptoRow.holds Try.pinned (OpenSpec.upto fnExactBytesOfFirstSpec)

/-- 'laws.FnExactIsQuiescent', WHERE WHAT IT READS IS OF BULK AT MOST 1048576: true; the input reads as it did. -/
def fnExactIsQuiescentUptoRow : OpenClaim := { program := "ytghkejhhneijlaa", sum := "f4f5979ae6f239dd62b66f591a1706d615837dff2a1283fd4e32cf3138ae57a2", func := "loop.example/g00509/laws.FnExactIsQuiescent", spec := "fnExactIsQuiescent", apart := false, narrowed := true }
def FnExactIsQuiescentUptoSaid : Prop := fnExactIsQuiescentUptoRow.holds Try.pinned (OpenSpec.upto fnExactIsQuiescentSpec)

/-- 'laws.FnExactAcknowledgedWereDelivered', WHERE WHAT IT READS IS OF BULK AT MOST 1048576: true; the input reads as it did. -/
def fnExactAcknowledgedWereDeliveredUptoRow : OpenClaim := { program := "ytghkejhhneijlaa", sum := "f4f5979ae6f239dd62b66f591a1706d615837dff2a1283fd4e32cf3138ae57a2", func := "loop.example/g00509/laws.FnExactAcknowledgedWereDelivered", spec := "fnExactAcknowledgedWereDelivered", apart := false, narrowed := true }
def FnExactAcknowledgedWereDeliveredUptoSaid : Prop := fnExactAcknowledgedWereDeliveredUptoRow.holds Try.pinned (OpenSpec.upto fnExactAcknowledgedWereDeliveredSpec)

/-- 'laws.FnExactIsReachable', WHERE WHAT IT READS IS OF BULK AT MOST 1048576: true; the input reads as it did. -/
def fnExactIsReachableUptoRow : OpenClaim := { program := "ytghkejhhneijlaa", sum := "f4f5979ae6f239dd62b66f591a1706d615837dff2a1283fd4e32cf3138ae57a2", func := "loop.example/g00509/laws.FnExactIsReachable", spec := "fnExactIsReachable", apart := false, narrowed := true }
def FnExactIsReachableUptoSaid : Prop := fnExactIsReachableUptoRow.holds Try.pinned (OpenSpec.upto fnExactIsReachableSpec)

/-- 'laws.FnExactChargedBytes', WHERE WHAT IT READS IS OF BULK AT MOST 1048576: true; the input reads as it did. -/
def fnExactChargedBytesUptoRow : OpenClaim := { program := "ytghkejhhneijlaa", sum := "f4f5979ae6f239dd62b66f591a1706d615837dff2a1283fd4e32cf3138ae57a2", func := "loop.example/g00509/laws.FnExactChargedBytes", spec := "fnExactChargedBytes", apart := false, narrowed := true }
def FnExactChargedBytesUptoSaid : Prop := fnExactChargedBytesUptoRow.holds Try.pinned (OpenSpec.upto fnExactChargedBytesSpec)

/-- 'laws.FnExactIsServed', WHERE WHAT IT READS IS OF BULK AT MOST 1048576: true; the input reads as it did. -/
def fnExactIsServedUptoRow : OpenClaim := { program := "ytghkejhhneijlaa", sum := "f4f5979ae6f239dd62b66f591a1706d615837dff2a1283fd4e32cf3138ae57a2", func := "loop.example/g00509/laws.FnExactIsServed", spec := "fnExactIsServed", apart := false, narrowed := true }
def FnExactIsServedUptoSaid : Prop := fnExactIsServedUptoRow.holds Try.pinned (OpenSpec.upto fnExactIsServedSpec)

end Rows
end Go.Proofs.Ytghkejhhneijlaa
