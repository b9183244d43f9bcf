/-
  Own text: a part of the abstract machine for this seat (Kam). No statement is proved here.
-/
import Derived.Test.YtmfccbgmdnhkfaaKag
set_option linter.unusedVariables false
namespace Go.AM
open Go.Proofs
attribute [local irreducible] AWN NS AWO AWR AWC DR Weak iterQ
set_option maxRecDepth 100000
set_option maxHeartbeats 4000000
def lbig (a0 : List Int) : Option Bool :=
  some (ltB 1048576 ((a0.length : Nat) : Int))
theorem lbig_c {a0 : List Int} {r : Bool} (H : lbig a0 = some r) : Fn Try.prog 6 [aL (a0.map eU8)] [.c (.d (.b r))] := by
  refine fn_in Try.func6 rfl (by kernel_rfl) Try.ntmps6 rfl rfl rfl ?_
  refine wk ?_
  cases H
  exact fin_ret (.cons (.tmp rfl) .nil) rfl rfl rfl
def lcontains_L1 (a0 : List Int) (a1 : Int) : Int → Option (Step (Int) (Bool))
  | v1 => bif ltB v1 ((a0.length : Nat) : Int) then (Option.bind (ix a0 v1) fun x2 => bif eqB x2 a1 then (dn (some true)) else (some (.next (WR (v1 + 1))))) else (dn (some false))
def lcontains (a0 : List Int) (a1 : Int) : Option Bool :=
  iter (lcontains_L1 a0 a1) FU 0
theorem lcontains_c {a0 : List Int} {a1 : Int} {r : Bool} (H : lcontains a0 a1 = some r) : Fn Try.prog 17 [aL (a0.map eI), aI a1] [.c (.d (.b r))] := by
  refine fn_in Try.func17 rfl (by kernel_rfl) Try.ntmps17 rfl rfl rfl ?_
  refine wk ?_
  refine awc_iter (fun (q : Int) => ⟨[(0, .v (.c (.d false (.l (a0.map eI))))), (1, tI a1), (5, tI q)], [], 0⟩) H (weak_of ⟨rfl, rfl, rfl, rfl, rfl, rfl, trivial⟩ trivial) ?_
  rintro v1 o H
  try dsimp only
  refine wk ?_
  refine awc_cond rfl (fun h => ?_) (fun h => ?_)
  · have H := bt h H
    refine wk ?_
    obtain ⟨x2, hx2, H⟩ := ob H
    refine awr_n rfl (xdT (enc := eI) hx2 (fun _ => rfl) rfl rfl rfl) ?_
    refine wk ?_
    refine awc_cond rfl (fun h => ?_) (fun h => ?_)
    · have H := bt h H
      refine wk ?_
      obtain ⟨r0, Hd, rfl⟩ := dnE H
      refine iq_r (fun hq => ?_)
      have H := Hd.trans (congrArg some hq)
      refine wk ?_
      cases H
      exact fin_ret (.cons (.tmp rfl) .nil) rfl rfl rfl
    · have H := bf h H
      refine wk ?_
      cases H
      refine iq_n ?_
      exact weak_of ⟨rfl, rfl, rfl, rfl, rfl, rfl, trivial⟩ trivial
  · have H := bf h H
    refine wk ?_
    obtain ⟨r0, Hd, rfl⟩ := dnE H
    refine iq_e (fun hq => ?_)
    have H := Hd.trans (congrArg some hq)
    refine wk ?_
    cases H
    exact fin_ret (.cons (.tmp rfl) .nil) rfl rfl rfl
def lat (a0 : List Int) (a1 : Int) : Option Int :=
  bif ltB a1 ((a0.length : Nat) : Int) then (Option.bind (ix a0 a1) fun x1 => some (WR (x1))) else (some (Int.tmod (WR ((WR (a1 * 31)) + (WR (((a0.length : Nat) : Int) * 7)))) 256))
theorem lat_c {a0 : List Int} {a1 : Int} {r : Int} (H : lat a0 a1 = some r) : Fn Try.prog 22 [aL (a0.map eU8), aI a1] [.c (.d (.i .i64 r))] := by
  refine fn_in Try.func22 rfl (by kernel_rfl) Try.ntmps22 rfl rfl rfl ?_
  refine wk ?_
  refine awc_cond rfl (fun h => ?_) (fun h => ?_)
  · have H := bt h H
    refine wk ?_
    obtain ⟨x1, hx1, H⟩ := ob H
    refine awr_n rfl (xdT (enc := eU8) hx1 (fun _ => rfl) rfl rfl rfl) ?_
    refine wk ?_
    cases H
    exact fin_ret (.cons (.tmp rfl) .nil) rfl rfl rfl
  · have H := bf h H
    refine wk ?_
    refine awr_n rfl (ir rfl rfl rfl (by decide)) ?_
    refine wk ?_
    cases H
    exact fin_ret (.cons (.tmp rfl) .nil) rfl rfl rfl
def lsameRegistrations_L1 (a0 : List TRegistration) (a1 : List TRegistration) : Int → Option (Step (Int) (Bool))
  | v1 => bif ltB v1 ((a0.length : Nat) : Int) then (Option.bind (ix a0 v1) fun x2 => Option.bind (ix a1 v1) fun x3 => bif !(eqB x2.ID.Network x3.ID.Network && (eqB x2.ID.Number x3.ID.Number && (eqB x2.Network x3.Network && (eqB x2.Area x3.Area && (eqB x2.TempID.Pool x3.TempID.Pool && (eqB x2.TempID.Number x3.TempID.Number && true)))))) then (dn (some false)) else (some (.next (WR (v1 + 1))))) else (dn (some true))
def lsameRegistrations (a0 : List TRegistration) (a1 : List TRegistration) : Option Bool :=
  bif !eqB ((a0.length : Nat) : Int) ((a1.length : Nat) : Int) then (some false) else (iter (lsameRegistrations_L1 a0 a1) FU 0)
theorem lsameRegistrations_c {a0 : List TRegistration} {a1 : List TRegistration} {r : Bool} (H : lsameRegistrations a0 a1 = some r) : Fn Try.prog 25 [aL (a0.map eTRegistration), aL (a1.map eTRegistration)] [.c (.d (.b r))] := by
  refine fn_in Try.func25 rfl (by kernel_rfl) Try.ntmps25 rfl rfl rfl ?_
  refine wkd ?_
  refine awc_cond rfl (fun h => ?_) (fun h => ?_)
  · have H := bt h H
    refine wkd ?_
    cases H
    exact fin_ret (.cons (.tmp rfl) .nil) rfl rfl rfl
  · have H := bf h H
    refine wkd ?_
    refine awc_iter (fun (q : Int) => ⟨[(0, .v (.c (.d false (.l (a0.map eTRegistration))))), (1, .v (.c (.d false (.l (a1.map eTRegistration))))), (5, tI q)], [], 0⟩) H (weak_of ⟨rfl, rfl, rfl, rfl, rfl, rfl, trivial⟩ trivial) ?_
    rintro v1 o H
    try dsimp only
    refine wkd ?_
    refine awc_cond rfl (fun h => ?_) (fun h => ?_)
    · have H := bt h H
      refine wkd ?_
      obtain ⟨x2, hx2, H⟩ := ob H
      refine dr_n rfl (xdT (enc := eTRegistration) hx2 (fun _ => rfl) rfl rfl rfl) ?_
      refine wkd ?_
      obtain ⟨x3, hx3, H⟩ := ob H
      refine dr_n rfl (xdT (enc := eTRegistration) hx3 (fun _ => rfl) rfl rfl rfl) ?_
      refine wkd ?_
      refine awc_cond rfl (fun h => ?_) (fun h => ?_)
      · have H := bt h H
        refine wkd ?_
        obtain ⟨r0, Hd, rfl⟩ := dnE H
        refine iq_r (fun hq => ?_)
        have H := Hd.trans (congrArg some hq)
        refine wkd ?_
        cases H
        exact fin_ret (.cons (.tmp rfl) .nil) rfl rfl rfl
      · have H := bf h H
        refine wkd ?_
        cases H
        refine iq_n ?_
        exact weak_of ⟨rfl, rfl, rfl, rfl, rfl, rfl, trivial⟩ trivial
    · have H := bf h H
      refine wkd ?_
      obtain ⟨r0, Hd, rfl⟩ := dnE H
      refine iq_e (fun hq => ?_)
      have H := Hd.trans (congrArg some hq)
      refine wkd ?_
      cases H
      exact fin_ret (.cons (.tmp rfl) .nil) rfl rfl rfl
end Go.AM
