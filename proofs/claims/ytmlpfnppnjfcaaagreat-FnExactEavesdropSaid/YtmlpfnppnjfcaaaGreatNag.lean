/-
  Own text: a part of the abstract machine for this seat (Nag). No statement is proved here.
-/
import Derived.Test.YtmlpfnppnjfcaaaGreatR8T
set_option linter.unusedVariables false
namespace Go.AM
open Go.Proofs
attribute [local irreducible] AWN NS AWO AWR AWC DR Weak iterQ
set_option maxRecDepth 100000
set_option maxHeartbeats 4000000
def gslices_Equal_int_int_L1 (a0 : List Int) (a1 : List Int) : Int → Option (Step (Int) (Bool))
  | v1 => bif ltB v1 ((a0.length : Nat) : Int) then (Option.bind (ix a0 v1) fun x2 => Option.bind (ix a1 v1) fun x3 => bif !eqB x2 x3 then (dn (some false)) else (some (.next (WR (v1 + 1))))) else (dn (some true))
def gslices_Equal_int_int (a0 : List Int) (a1 : List Int) : Option Bool :=
  bif !eqB ((a0.length : Nat) : Int) ((a1.length : Nat) : Int) then (some false) else (iter (gslices_Equal_int_int_L1 a0 a1) FU 0)
theorem gslices_Equal_int_int_c {a0 : List Int} {a1 : List Int} {r : Bool} (H : gslices_Equal_int_int a0 a1 = some r) : Fn Tryz.prog 260 [aL (a0.map eI), aL (a1.map eI)] [.c (.d (.b r))] := by
  refine fn_in Tryz.func260 rfl (by kernel_rfl) Tryz.ntmps260 rfl rfl rfl ?_
  refine wkd ?_
  refine awc_cond rfl (fun h => ?_) (fun h => ?_)
  · have H := bt h H
    refine wkd ?_
    cases H
    exact fin_ret (.cons (.tmp rfl) .nil) rfl rfl rfl
  · have H := bf h H
    refine wkd ?_
    refine awc_iter (fun (q : Int) => ⟨[(0, .v (.c (.d false (.l (a0.map eI))))), (1, .v (.c (.d false (.l (a1.map eI))))), (12, tI ((a0.length : Nat) : Int)), (13, tI q)], [], 0⟩) H (weak_of ⟨rfl, rfl, rfl, rfl, rfl, rfl, rfl, rfl, trivial⟩ trivial) ?_
    rintro v1 o H
    try dsimp only
    refine wkd ?_
    refine awc_cond rfl (fun h => ?_) (fun h => ?_)
    · have H := bt h H
      refine wkd ?_
      obtain ⟨x2, hx2, H⟩ := ob H
      refine dr_n rfl (xdT (enc := eI) hx2 (fun _ => rfl) rfl rfl rfl) ?_
      refine wkd ?_
      obtain ⟨x3, hx3, H⟩ := ob H
      refine dr_n rfl (xdT (enc := eI) hx3 (fun _ => rfl) rfl rfl rfl) ?_
      refine wkd ?_
      refine awc_cond rfl (fun h => ?_) (fun h => ?_)
      · have H := bt h H
        refine wkd ?_
        obtain ⟨r0, Hd, rfl⟩ := dnE H
        refine iq_r (fun hq => ?_)
        have H := Hd.trans (congrArg some hq)
        refine wkd ?_
        cases H
        exact fin_ret (.cons (.tmp rfl) .nil) rfl rfl rfl
      · have H := bf h H
        refine wkd ?_
        cases H
        refine iq_n ?_
        exact weak_of ⟨rfl, rfl, rfl, rfl, rfl, rfl, rfl, rfl, trivial⟩ trivial
    · have H := bf h H
      refine wkd ?_
      obtain ⟨r0, Hd, rfl⟩ := dnE H
      refine iq_e (fun hq => ?_)
      have H := Hd.trans (congrArg some hq)
      refine wkd ?_
      cases H
      exact fin_ret (.cons (.tmp rfl) .nil) rfl rfl rfl
end Go.AM
