/-
  No cell of these rows narrows 'for every input' (looked for: loops, veiled, ifaces, maps, wideKeys, modest, calm, conditions, laid).
  DERIVED. THE GIVEN ROWS OF THIS SEAT. 3 by the template 'for every input the law returns true; each argument reads behind the call as it read before'; 0 by the template 'total and deterministic' (their statements: YtmfccbgmdnhkfaaTotals.lean).
  GIVEN WITH THE SEED: the statements are not yours to turn. If you find one false, say at which input.
  Laid BY PROGRAM, IN A SANDBOX (cutbox-rows.mjs): the forced cells as the released guide's own fill.sh prints them over the translation e65f0dfe7138e5f4… (all of the seat's roots in one cut). By AI agents, Wed Nov 11 2026. No macro, syntax, notation, axiom, sorry.
-/
import Derived.Test.YtmfccbgmdnhkfaaChecked
import GoSem.Claim
import GoSem.ClaimJoined
import GoSem.ClaimMapViews
import Derived.JoinedTies
import Derived.KernelRfl
namespace Go.Proofs.Ytmfccbgmdnhkfaa
/- THE CELL 'sum', in the pinned program and in every row, IS THE sha256 OF THE DUMP (.gsa) THAT YtmfccbgmdnhkfaaProg.lean LOADS. Nothing in Lean hashes anything: it is a label: what it is worth is what the hold of that sum in a sandbox is worth. -/
noncomputable def Try.pinned : Pinned := { name := "ytmfccbgmdnhkfaa", sum := "e65f0dfe7138e5f41ae74fa9595e455a5c5cad7667cc647a04ddbdb843efd585", checked := Try.checked }
namespace Rows
def none {H : Type} : Left H := { results := [], args := [] }

/-- 'laws.FnVisitors': WHATEVER THE INPUT: true; the input reads as it did. -/
def fnVisitorsSpec : ChangeSpec := { name := "fnVisitors", fn := fun _ => fun
  | [d] => { results := [.lit (.bool true)], args := [d] }
  | _ => none }
def fnVisitorsRow : OpenClaim := { program := "ytmfccbgmdnhkfaa", sum := "e65f0dfe7138e5f41ae74fa9595e455a5c5cad7667cc647a04ddbdb843efd585", func := "loop.example/g00509/laws.FnVisitors", spec := "fnVisitors", apart := false }
def FnVisitorsSaid : Prop := fnVisitorsRow.holds Try.pinned (OpenSpec.ofChange fnVisitorsSpec)

/-- ITS FALSE NEIGHBOUR: 'it returns false'. Refute it at one input. -/
def fnVisitorsWrong : ChangeSpec := { name := "fnVisitors", fn := fun _ => fun
  | [d] => { results := [.lit (.bool false)], args := [d] }
  | _ => none }
def FnVisitorsWrongFalsely : Prop := fnVisitorsRow.holds Try.pinned (OpenSpec.ofChange fnVisitorsWrong)

/-- 'laws.FnRoamingAccess': WHATEVER THE INPUT: true; the input reads as it did. -/
def fnRoamingAccessSpec : ChangeSpec := { name := "fnRoamingAccess", fn := fun _ => fun
  | [d] => { results := [.lit (.bool true)], args := [d] }
  | _ => none }
def fnRoamingAccessRow : OpenClaim := { program := "ytmfccbgmdnhkfaa", sum := "e65f0dfe7138e5f41ae74fa9595e455a5c5cad7667cc647a04ddbdb843efd585", func := "loop.example/g00509/laws.FnRoamingAccess", spec := "fnRoamingAccess", apart := false }
def FnRoamingAccessSaid : Prop := fnRoamingAccessRow.holds Try.pinned (OpenSpec.ofChange fnRoamingAccessSpec)

/-- ITS FALSE NEIGHBOUR: 'it returns false'. Refute it at one input. -/
def fnRoamingAccessWrong : ChangeSpec := { name := "fnRoamingAccess", fn := fun _ => fun
  | [d] => { results := [.lit (.bool false)], args := [d] }
  | _ => none }
def FnRoamingAccessWrongFalsely : Prop := fnRoamingAccessRow.holds Try.pinned (OpenSpec.ofChange fnRoamingAccessWrong)

/-- 'laws.FnRoamingRegistration': WHATEVER THE INPUT: true; the input reads as it did. -/
def fnRoamingRegistrationSpec : ChangeSpec := { name := "fnRoamingRegistration", fn := fun _ => fun
  | [d] => { results := [.lit (.bool true)], args := [d] }
  | _ => none }
def fnRoamingRegistrationRow : OpenClaim := { program := "ytmfccbgmdnhkfaa", sum := "e65f0dfe7138e5f41ae74fa9595e455a5c5cad7667cc647a04ddbdb843efd585", func := "loop.example/g00509/laws.FnRoamingRegistration", spec := "fnRoamingRegistration", apart := false }
def FnRoamingRegistrationSaid : Prop := fnRoamingRegistrationRow.holds Try.pinned (OpenSpec.ofChange fnRoamingRegistrationSpec)

/-- ITS FALSE NEIGHBOUR: 'it returns false'. Refute it at one input. -/
def fnRoamingRegistrationWrong : ChangeSpec := { name := "fnRoamingRegistration", fn := fun _ => fun
  | [d] => { results := [.lit (.bool false)], args := [d] }
  | _ => none }
def FnRoamingRegistrationWrongFalsely : Prop := fnRoamingRegistrationRow.holds Try.pinned (OpenSpec.ofChange fnRoamingRegistrationWrong)

/- THE SECOND FORM. 'bulk': how many values and letters a reading holds, each counted each time it is reached (what is shared counts as often as it is met; a slice's spare places count too). A statement '..UptoSaid' is the law's where the arguments, and the package variables that the reading takes, are together of bulk at most 1048576: NARROWER than '..Said'. Prove '..Said' where nothing that the law and all that it calls make is longer than what came in: it says more and counts as full. Else prove '..UptoSaid'. A law counts once. -/
mutual
def uptoBulk {H : Type} : DataW H → Nat
  | .lit (.string bytes) => bytes.length + 1
  | .lit _ => 1
  | .nil => 1
  | .ptr d => uptoBulk d + 1
  | .slice elems spare => uptoBulkAll elems + uptoBulkAll spare + 1
  | .agg parts => uptoBulkAll parts + 1
  | .iface _ d => uptoBulk d + 1
  | .map entries => uptoBulkEntries entries + 1
  | .held _ => 1
def uptoBulkAll {H : Type} : List (DataW H) → Nat
  | [] => 0
  | d :: r => uptoBulk d + uptoBulkAll r
def uptoBulkEntries {H : Type} : List (Lit × DataW H) → Nat
  | [] => 0
  | x :: r => uptoBulkEntry x + uptoBulkEntries r
def uptoBulkEntry {H : Type} : Lit × DataW H → Nat
  | (.string bytes, d) => bytes.length + uptoBulk d + 1
  | (_, d) => uptoBulk d + 1
 end
def uptoSmall : (H : Type) → List (DataW H) → Bool := fun _ ds => decide (uptoBulkAll ds ≤ 1048576)
def OpenSpec.upto (s : _root_.Go.ChangeSpec) : _root_.Go.OpenSpec := { _root_.Go.OpenSpec.ofChange s with cond := some uptoSmall }

/-- 'laws.FnVisitors', WHERE WHAT IT READS IS OF BULK AT MOST 1048576: true; the input reads as it did. -/
def fnVisitorsUptoRow : OpenClaim := { program := "ytmfccbgmdnhkfaa", sum := "e65f0dfe7138e5f41ae74fa9595e455a5c5cad7667cc647a04ddbdb843efd585", func := "loop.example/g00509/laws.FnVisitors", spec := "fnVisitors", apart := false, narrowed := true }
def FnVisitorsUptoSaid : Prop := fnVisitorsUptoRow.holds Try.pinned (OpenSpec.upto fnVisitorsSpec)

/-- 'laws.FnRoamingAccess', WHERE WHAT IT READS IS OF BULK AT MOST 1048576: true; the input reads as it did. -/
def fnRoamingAccessUptoRow : OpenClaim := { program := "ytmfccbgmdnhkfaa", sum := "e65f0dfe7138e5f41ae74fa9595e455a5c5cad7667cc647a04ddbdb843efd585", func := "loop.example/g00509/laws.FnRoamingAccess", spec := "fnRoamingAccess", apart := false, narrowed := true }
def FnRoamingAccessUptoSaid : Prop := fnRoamingAccessUptoRow.holds Try.pinned (OpenSpec.upto fnRoamingAccessSpec)

/-- 'laws.FnRoamingRegistration', WHERE WHAT IT READS IS OF BULK AT MOST 1048576: true; the input reads as it did. -/
def fnRoamingRegistrationUptoRow : OpenClaim := { program := "ytmfccbgmdnhkfaa", sum := "e65f0dfe7138e5f41ae74fa9595e455a5c5cad7667cc647a04ddbdb843efd585", func := "loop.example/g00509/laws.FnRoamingRegistration", spec := "fnRoamingRegistration", apart := false, narrowed := true }
def FnRoamingRegistrationUptoSaid : Prop := fnRoamingRegistrationUptoRow.holds Try.pinned (OpenSpec.upto fnRoamingRegistrationSpec)

end Rows
end Go.Proofs.Ytmfccbgmdnhkfaa
