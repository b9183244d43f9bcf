/-
  Own text: a part of the abstract machine for this seat (Dam). No statement is proved here.
-/
import Derived.Test.YtmlpfnppnjfcaaaDoorDag
set_option linter.unusedVariables false
namespace Go.AM
open Go.Proofs
attribute [local irreducible] AWN NS AWO AWR AWC DR Weak iterQ
set_option maxRecDepth 100000
set_option maxHeartbeats 4000000
def lbig (a0 : List Int) : Option Bool :=
  some (ltB 1048576 ((a0.length : Nat) : Int))
theorem lbig_c {a0 : List Int} {r : Bool} (H : lbig a0 = some r) : Fn Tryd.prog 4 [aL (a0.map eU8)] [.c (.d (.b r))] := by
  refine fn_in Tryd.func4 rfl (by kernel_rfl) Tryd.ntmps4 rfl rfl rfl ?_
  refine wk ?_
  cases H
  exact fin_ret (.cons (.tmp rfl) .nil) rfl rfl rfl
end Go.AM
