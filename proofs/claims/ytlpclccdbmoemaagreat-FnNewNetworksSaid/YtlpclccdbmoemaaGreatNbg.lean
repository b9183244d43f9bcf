/-
  Own text: a part of the abstract machine for this seat (Nbg). No statement is proved here.
-/
import Derived.Test.YtlpclccdbmoemaaGreatR9T
set_option linter.unusedVariables false
namespace Go.AM
open Go.Proofs
attribute [local irreducible] AWN NS AWO AWR AWC DR Weak iterQ
set_option maxRecDepth 100000
set_option maxHeartbeats 4000000
def gslices_Index_int_int_L1 (a0 : List Int) (a1 : Int) : Int → Option (Step (Int) (Int))
  | v1 => bif ltB v1 ((a0.length : Nat) : Int) then (Option.bind (ix a0 v1) fun x2 => bif eqB a1 x2 then (dn (some v1)) else (some (.next (WR (v1 + 1))))) else (dn (some (-1)))
def gslices_Index_int_int (a0 : List Int) (a1 : Int) : Option Int :=
  iter (gslices_Index_int_int_L1 a0 a1) FU 0
theorem gslices_Index_int_int_c {a0 : List Int} {a1 : Int} {r : Int} (H : gslices_Index_int_int a0 a1 = some r) : Fn Tryz.prog 99 [aL (a0.map eI), aI a1] [.c (.d (.i .i64 r))] := by
  refine fn_in Tryz.func99 rfl (by kernel_rfl) Tryz.ntmps99 rfl rfl rfl ?_
  refine wk ?_
  refine awc_iter (fun (q : Int) => ⟨[(0, .v (.c (.d false (.l (a0.map eI))))), (1, tI a1), (7, tI ((a0.length : Nat) : Int)), (8, tI q)], [], 0⟩) H (weak_of ⟨rfl, rfl, rfl, rfl, rfl, rfl, rfl, rfl, trivial⟩ trivial) ?_
  rintro v1 o H
  try dsimp only
  refine wk ?_
  refine awc_cond rfl (fun h => ?_) (fun h => ?_)
  · have H := bt h H
    refine wk ?_
    obtain ⟨x2, hx2, H⟩ := ob H
    refine awr_n rfl (xdT (enc := eI) hx2 (fun _ => rfl) rfl rfl rfl) ?_
    refine wk ?_
    refine awc_cond rfl (fun h => ?_) (fun h => ?_)
    · have H := bt h H
      refine wk ?_
      obtain ⟨r0, Hd, rfl⟩ := dnE H
      refine iq_r (fun hq => ?_)
      have H := Hd.trans (congrArg some hq)
      refine wk ?_
      cases H
      exact fin_ret (.cons (.tmp rfl) .nil) rfl rfl rfl
    · have H := bf h H
      refine wk ?_
      cases H
      refine iq_n ?_
      exact weak_of ⟨rfl, rfl, rfl, rfl, rfl, rfl, rfl, rfl, trivial⟩ trivial
  · have H := bf h H
    refine wk ?_
    obtain ⟨r0, Hd, rfl⟩ := dnE H
    refine iq_e (fun hq => ?_)
    have H := Hd.trans (congrArg some hq)
    refine wk ?_
    cases H
    exact fin_ret (.cons (.tmp rfl) .nil) rfl rfl rfl
def gslices_Contains_int_int (a0 : List Int) (a1 : Int) : Option Bool :=
  Option.bind (gslices_Index_int_int a0 a1) fun r1 => some (leB 0 r1)
theorem gslices_Contains_int_int_c {a0 : List Int} {a1 : Int} {r : Bool} (H : gslices_Contains_int_int a0 a1 = some r) : Fn Tryz.prog 77 [aL (a0.map eI), aI a1] [.c (.d (.b r))] := by
  refine fn_in Tryz.func77 rfl (by kernel_rfl) Tryz.ntmps77 rfl rfl rfl ?_
  refine wk ?_
  obtain ⟨r1, hr1, H⟩ := ob H
  refine awr_n rfl (ca rfl rfl rfl (gslices_Index_int_int_c hr1) trivial rfl rfl rfl rfl) ?_
  refine wk ?_
  cases H
  exact fin_ret (.cons (.tmp rfl) .nil) rfl rfl rfl
def gbytes_Equal (a0 : List Int) (a1 : List Int) : Option Bool :=
  some (strB (bsOf a0) (bsOf a1))
theorem gbytes_Equal_c {a0 : List Int} {a1 : List Int} {r : Bool} (H : gbytes_Equal a0 a1 = some r) : Fn Tryz.prog 105 [aL (a0.map eU8), aL (a1.map eU8)] [.c (.d (.b r))] := by
  refine fn_in Tryz.func105 rfl (by kernel_rfl) Tryz.ntmps105 rfl rfl rfl ?_
  refine wk ?_
  cases H
  exact fin_ret (.cons (.tmp rfl) .nil) rfl rfl rfl
end Go.AM
