/-
  No cell of these rows narrows 'for every input' (looked for: loops, veiled, ifaces, maps, wideKeys, modest, calm, conditions, laid).
  DERIVED. THE GIVEN ROWS OF THIS SEAT. 4 by the template 'for every input the law returns true; each argument reads behind the call as it read before'; 0 by the template 'total and deterministic' (their statements: YtljhooecmjejiaaGreatTotals.lean).
  GIVEN WITH THE SEED: the statements are not yours to turn. If you find one false, say at which input.
  Laid BY PROGRAM, IN A SANDBOX (cutbox-rows.mjs): the forced cells as the released guide's own fill.sh prints them over the translation 8f41f5b9949a3823… (all of the seat's roots in one cut). By AI agents, Wed Nov 11 2026. No macro, syntax, notation, axiom, sorry.
-/
import Derived.Test.YtljhooecmjejiaaGreatChecked
import GoSem.Claim
import GoSem.ClaimJoined
import GoSem.ClaimMapViews
import Derived.JoinedTies
import Derived.KernelRfl
namespace Go.Proofs.YtljhooecmjejiaaGreat
/- THE CELL 'sum', in the pinned program and in every row, IS THE sha256 OF THE DUMP (.gsa) THAT YtljhooecmjejiaaGreatProg.lean LOADS. Nothing in Lean hashes anything: it is a label: what it is worth is what the hold of that sum in a sandbox is worth. -/
noncomputable def Tryz.pinned : Pinned := { name := "ytljhooecmjejiaagreat", sum := "8f41f5b9949a38239f743a86797f5ef65f854bc6659858023162463bf80bc98e", checked := Tryz.checked }
namespace Rows
def none {H : Type} : Left H := { results := [], args := [] }

/-- 'laws.FnNothingLostOrPaidTwice': WHATEVER THE INPUT: true; the input reads as it did. -/
def fnNothingLostOrPaidTwiceSpec : ChangeSpec := { name := "fnNothingLostOrPaidTwice", fn := fun _ => fun
  | [d] => { results := [.lit (.bool true)], args := [d] }
  | _ => none }
def fnNothingLostOrPaidTwiceRow : OpenClaim := { program := "ytljhooecmjejiaagreat", sum := "8f41f5b9949a38239f743a86797f5ef65f854bc6659858023162463bf80bc98e", func := "loop.example/g00509/laws.FnNothingLostOrPaidTwice", spec := "fnNothingLostOrPaidTwice", apart := false }
def FnNothingLostOrPaidTwiceSaid : Prop := fnNothingLostOrPaidTwiceRow.holds Tryz.pinned (OpenSpec.ofChange fnNothingLostOrPaidTwiceSpec)

/-- ITS FALSE NEIGHBOUR: 'it returns false'. Refute it at one input. -/
def fnNothingLostOrPaidTwiceWrong : ChangeSpec := { name := "fnNothingLostOrPaidTwice", fn := fun _ => fun
  | [d] => { results := [.lit (.bool false)], args := [d] }
  | _ => none }
def FnNothingLostOrPaidTwiceWrongFalsely : Prop := fnNothingLostOrPaidTwiceRow.holds Tryz.pinned (OpenSpec.ofChange fnNothingLostOrPaidTwiceWrong)

/-- 'laws.FnServerFailover': WHATEVER THE INPUT: true; the input reads as it did. -/
def fnServerFailoverSpec : ChangeSpec := { name := "fnServerFailover", fn := fun _ => fun
  | [d] => { results := [.lit (.bool true)], args := [d] }
  | _ => none }
def fnServerFailoverRow : OpenClaim := { program := "ytljhooecmjejiaagreat", sum := "8f41f5b9949a38239f743a86797f5ef65f854bc6659858023162463bf80bc98e", func := "loop.example/g00509/laws.FnServerFailover", spec := "fnServerFailover", unfollowed := true, recurses := true, apart := false }
def FnServerFailoverSaid : Prop := fnServerFailoverRow.holds Tryz.pinned (OpenSpec.ofChange fnServerFailoverSpec)

/-- ITS FALSE NEIGHBOUR: 'it returns false'. Refute it at one input. -/
def fnServerFailoverWrong : ChangeSpec := { name := "fnServerFailover", fn := fun _ => fun
  | [d] => { results := [.lit (.bool false)], args := [d] }
  | _ => none }
def FnServerFailoverWrongFalsely : Prop := fnServerFailoverRow.holds Tryz.pinned (OpenSpec.ofChange fnServerFailoverWrong)

/-- 'laws.FnLateService': WHATEVER THE INPUT: true; the input reads as it did. -/
def fnLateServiceSpec : ChangeSpec := { name := "fnLateService", fn := fun _ => fun
  | [d] => { results := [.lit (.bool true)], args := [d] }
  | _ => none }
def fnLateServiceRow : OpenClaim := { program := "ytljhooecmjejiaagreat", sum := "8f41f5b9949a38239f743a86797f5ef65f854bc6659858023162463bf80bc98e", func := "loop.example/g00509/laws.FnLateService", spec := "fnLateService", unfollowed := true, recurses := true, apart := false }
def FnLateServiceSaid : Prop := fnLateServiceRow.holds Tryz.pinned (OpenSpec.ofChange fnLateServiceSpec)

/-- ITS FALSE NEIGHBOUR: 'it returns false'. Refute it at one input. -/
def fnLateServiceWrong : ChangeSpec := { name := "fnLateService", fn := fun _ => fun
  | [d] => { results := [.lit (.bool false)], args := [d] }
  | _ => none }
def FnLateServiceWrongFalsely : Prop := fnLateServiceRow.holds Tryz.pinned (OpenSpec.ofChange fnLateServiceWrong)

/-- 'laws.FnEavesdropping': WHATEVER THE INPUT: true; the input reads as it did. -/
def fnEavesdroppingSpec : ChangeSpec := { name := "fnEavesdropping", fn := fun _ => fun
  | [d] => { results := [.lit (.bool true)], args := [d] }
  | _ => none }
def fnEavesdroppingRow : OpenClaim := { program := "ytljhooecmjejiaagreat", sum := "8f41f5b9949a38239f743a86797f5ef65f854bc6659858023162463bf80bc98e", func := "loop.example/g00509/laws.FnEavesdropping", spec := "fnEavesdropping", apart := false }
def FnEavesdroppingSaid : Prop := fnEavesdroppingRow.holds Tryz.pinned (OpenSpec.ofChange fnEavesdroppingSpec)

/-- ITS FALSE NEIGHBOUR: 'it returns false'. Refute it at one input. -/
def fnEavesdroppingWrong : ChangeSpec := { name := "fnEavesdropping", fn := fun _ => fun
  | [d] => { results := [.lit (.bool false)], args := [d] }
  | _ => none }
def FnEavesdroppingWrongFalsely : Prop := fnEavesdroppingRow.holds Tryz.pinned (OpenSpec.ofChange fnEavesdroppingWrong)

/- THE SECOND FORM. 'bulk': how many values and letters a reading holds, each counted each time it is reached (what is shared counts as often as it is met; a slice's spare places count too). A statement '..UptoSaid' is the law's where the arguments, and the package variables that the reading takes, are together of bulk at most 1048576: NARROWER than '..Said'. Prove '..Said' where nothing that the law and all that it calls make is longer than what came in: it says more and counts as full. Else prove '..UptoSaid'. A law counts once. -/
mutual
def uptoBulk {H : Type} : DataW H → Nat
  | .lit (.string bytes) => bytes.length + 1
  | .lit _ => 1
  | .nil => 1
  | .ptr d => uptoBulk d + 1
  | .slice elems spare => uptoBulkAll elems + uptoBulkAll spare + 1
  | .agg parts => uptoBulkAll parts + 1
  | .iface _ d => uptoBulk d + 1
  | .map entries => uptoBulkEntries entries + 1
  | .held _ => 1
def uptoBulkAll {H : Type} : List (DataW H) → Nat
  | [] => 0
  | d :: r => uptoBulk d + uptoBulkAll r
def uptoBulkEntries {H : Type} : List (Lit × DataW H) → Nat
  | [] => 0
  | x :: r => uptoBulkEntry x + uptoBulkEntries r
def uptoBulkEntry {H : Type} : Lit × DataW H → Nat
  | (.string bytes, d) => bytes.length + uptoBulk d + 1
  | (_, d) => uptoBulk d + 1
 end
def uptoSmall : (H : Type) → List (DataW H) → Bool := fun _ ds => decide (uptoBulkAll ds ≤ 1048576)
def OpenSpec.upto (s : _root_.Go.ChangeSpec) : _root_.Go.OpenSpec := { _root_.Go.OpenSpec.ofChange s with cond := some uptoSmall }

/-- 'laws.FnNothingLostOrPaidTwice', WHERE WHAT IT READS IS OF BULK AT MOST 1048576: true; the input reads as it did. -/
def fnNothingLostOrPaidTwiceUptoRow : OpenClaim := { program := "ytljhooecmjejiaagreat", sum := "8f41f5b9949a38239f743a86797f5ef65f854bc6659858023162463bf80bc98e", func := "loop.example/g00509/laws.FnNothingLostOrPaidTwice", spec := "fnNothingLostOrPaidTwice", apart := false, narrowed := true }
def FnNothingLostOrPaidTwiceUptoSaid : Prop := fnNothingLostOrPaidTwiceUptoRow.holds Tryz.pinned (OpenSpec.upto fnNothingLostOrPaidTwiceSpec)

/-- 'laws.FnServerFailover', WHERE WHAT IT READS IS OF BULK AT MOST 1048576: true; the input reads as it did. -/
def fnServerFailoverUptoRow : OpenClaim := { program := "ytljhooecmjejiaagreat", sum := "8f41f5b9949a38239f743a86797f5ef65f854bc6659858023162463bf80bc98e", func := "loop.example/g00509/laws.FnServerFailover", spec := "fnServerFailover", unfollowed := true, recurses := true, apart := false, narrowed := true }
def FnServerFailoverUptoSaid : Prop := fnServerFailoverUptoRow.holds Tryz.pinned (OpenSpec.upto fnServerFailoverSpec)

/-- 'laws.FnLateService', WHERE WHAT IT READS IS OF BULK AT MOST 1048576: true; the input reads as it did. -/
def fnLateServiceUptoRow : OpenClaim := { program := "ytljhooecmjejiaagreat", sum := "8f41f5b9949a38239f743a86797f5ef65f854bc6659858023162463bf80bc98e", func := "loop.example/g00509/laws.FnLateService", spec := "fnLateService", unfollowed := true, recurses := true, apart := false, narrowed := true }
def FnLateServiceUptoSaid : Prop := fnLateServiceUptoRow.holds Tryz.pinned (OpenSpec.upto fnLateServiceSpec)

/-- 'laws.FnEavesdropping', WHERE WHAT IT READS IS OF BULK AT MOST 1048576: true; the input reads as it did. -/
def fnEavesdroppingUptoRow : OpenClaim := { program := "ytljhooecmjejiaagreat", sum := "8f41f5b9949a38239f743a86797f5ef65f854bc6659858023162463bf80bc98e", func := "loop.example/g00509/laws.FnEavesdropping", spec := "fnEavesdropping", apart := false, narrowed := true }
def FnEavesdroppingUptoSaid : Prop := fnEavesdroppingUptoRow.holds Tryz.pinned (OpenSpec.upto fnEavesdroppingSpec)

end Rows
end Go.Proofs.YtljhooecmjejiaaGreat
