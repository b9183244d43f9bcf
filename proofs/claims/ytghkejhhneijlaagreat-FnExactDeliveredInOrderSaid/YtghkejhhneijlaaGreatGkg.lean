/-
  Own text: a part of the abstract machine for this seat (Gkg). No statement is proved here.
-/
import Derived.Test.YtghkejhhneijlaaGreatR3T
set_option linter.unusedVariables false
namespace Go.AM
open Go.Proofs
attribute [local irreducible] AWN NS AWO AWR AWC DR Weak iterQ
set_option maxRecDepth 100000
set_option maxHeartbeats 4000000
def gbytes_Equal (a0 : List Int) (a1 : List Int) : Option Bool :=
  some (strB (bsOf a0) (bsOf a1))
theorem gbytes_Equal_c {a0 : List Int} {a1 : List Int} {r : Bool} (H : gbytes_Equal a0 a1 = some r) : Fn Tryz.prog 92 [aL (a0.map eU8), aL (a1.map eU8)] [.c (.d (.b r))] := by
  refine fn_in Tryz.func92 rfl (by kernel_rfl) Tryz.ntmps92 rfl rfl rfl ?_
  refine wk ?_
  cases H
  exact fin_ret (.cons (.tmp rfl) .nil) rfl rfl rfl
end Go.AM
