/-
  Own text: a part of the abstract machine for this seat (Hcm). No statement is proved here.
-/
import Derived.Test.YtnhgchfpccpcdaaHcg
set_option linter.unusedVariables false
namespace Go.AM
open Go.Proofs
attribute [local irreducible] AWN NS AWO AWR AWC DR Weak iterQ
set_option maxRecDepth 100000
set_option maxHeartbeats 4000000
def lszRoamingAgreementS (a0 : List TRoamingAgreement) (a1 : Int) : Option Int :=
  bif ltB (WR (a1 - ((a0.length : Nat) : Int))) 0 then (some (-1)) else (some (WR (a1 - ((a0.length : Nat) : Int))))
theorem lszRoamingAgreementS_c {a0 : List TRoamingAgreement} {a1 : Int} {r : Int} (H : lszRoamingAgreementS a0 a1 = some r) : Fn Try.prog 54 [aL (a0.map eTRoamingAgreement), aI a1] [.c (.d (.i .i64 r))] := by
  refine fn_in Try.func54 rfl (by kernel_rfl) Try.ntmps54 rfl rfl rfl ?_
  refine wk ?_
  refine awc_cond rfl (fun h => ?_) (fun h => ?_)
  · have H := bt h H
    refine wk ?_
    cases H
    exact fin_ret (.cons (.tmp rfl) .nil) rfl rfl rfl
  · have H := bf h H
    refine wk ?_
    cases H
    exact fin_ret (.cons (.tmp rfl) .nil) rfl rfl rfl
def ltoRoamingAgreement (a0 : TRoamingAgreement) : Option TRoamingAgreement :=
  some a0
theorem ltoRoamingAgreement_c {a0 : TRoamingAgreement} {r : TRoamingAgreement} (H : ltoRoamingAgreement a0 = some r) : Fn Try.prog 114 [.agg (eTRoamingAgreement a0)] [.agg [.d (.i .i64 r.Home), .d (.i .i64 r.Visited), .d (.i .i64 r.Price), .d (.i .i64 r.Cap)]] := by
  refine fn_in Try.func114 rfl (by kernel_rfl) Try.ntmps114 rfl rfl rfl ?_
  refine wk ?_
  cases H
  exact fin_ret (.cons (.cell rfl rfl rfl) .nil) rfl rfl rfl
def ltoRoamingAgreementS_L1 (a0 : List TRoamingAgreement) : (Int × List TRoamingAgreement) → Option (Step (Int × List TRoamingAgreement) (List TRoamingAgreement))
  | (v1, v2) => bif ltB v1 ((a0.length : Nat) : Int) then (Option.bind (ix a0 v1) fun x7 => Option.bind (ltoRoamingAgreement x7) fun r8 => Option.bind (ix v2 v1) fun x9 => some (.next (WR (v1 + 1), (v2.set (v1).toNat r8)))) else (some (.done v2))
def ltoRoamingAgreementS (a0 : List TRoamingAgreement) : Option (List TRoamingAgreement) :=
  bif mkOk 32 ((a0.length : Nat) : Int) ((a0.length : Nat) : Int) then (Option.bind (iter (ltoRoamingAgreementS_L1 a0) FU (0, (List.replicate (((a0.length : Nat) : Int)).toNat (⟨0, 0, 0, 0⟩ : TRoamingAgreement)))) fun (v6 : List TRoamingAgreement) => some v6) else none
theorem ltoRoamingAgreementS_c {a0 : List TRoamingAgreement} {r : List TRoamingAgreement} (H : ltoRoamingAgreementS a0 = some r) : Fn Try.prog 57 [aL (a0.map eTRoamingAgreement)] [.c (.own 62 4 (r.map eTRoamingAgreement) r.length)] := by
  refine fn_in Try.func57 rfl (by kernel_rfl) Try.ntmps57 rfl rfl rfl ?_
  refine wk ?_
  obtain ⟨h, H⟩ := rq H
  refine awr_n rfl (mkT (enc := eTRoamingAgreement) (za := (⟨0, 0, 0, 0⟩ : TRoamingAgreement)) h (by rfl) rfl rfl rfl rfl) ?_
  refine wk ?_
  obtain ⟨v6, Hj, H⟩ := ob H
  refine awc_jblk ⟨[(3, .v (.c (.w 0 v6.length)))], [(0, .row 62 4 (v6.map eTRoamingAgreement) true true)], 1⟩ ?_ ?_
  · refine wk ?_
    refine awc_iter (fun (q : Int × List TRoamingAgreement) => ⟨[(0, .v (.c (.d false (.l (a0.map eTRoamingAgreement))))), (3, .v (.c (.w 0 q.2.length))), (4, tI q.1)], [(0, .row 62 4 (q.2.map eTRoamingAgreement) true true)], 1⟩) Hj (weak_of ⟨rfl, rfl, wn rfl (by first | rfl | simp), rfl, rfl, rfl, trivial⟩ ⟨rfl, ⟨rfl, rfl⟩, trivial⟩) ?_
    rintro ⟨v1, v2⟩ o H
    try dsimp only
    refine wk ?_
    refine awc_cond rfl (fun h => ?_) (fun h => ?_)
    · have H := bt h H
      refine wk ?_
      obtain ⟨x7, hx7, H⟩ := ob H
      refine awr_n rfl (xdT (enc := eTRoamingAgreement) hx7 (fun _ => rfl) rfl rfl rfl) ?_
      refine wk ?_
      obtain ⟨r8, hr8, H⟩ := ob H
      refine awr_n rfl (ca rfl rfl rfl (ltoRoamingAgreement_c hr8) trivial rfl rfl rfl rfl) ?_
      refine wk ?_
      obtain ⟨x9, hx9, H⟩ := ob H
      refine awr_n rfl (xwT hx9 (by first | rfl | simp) rfl rfl rfl) ?_
      refine wk ?_
      refine awr_step rfl (soT (enc := eTRoamingAgreement) (a' := r8) hx9 rfl rfl rfl rfl rfl rfl rfl) ?_
      refine wk ?_
      cases H
      refine iq_n ?_
      exact weak_of ⟨rfl, rfl, wn rfl (by first | rfl | simp), rfl, rfl, rfl, trivial⟩ ⟨rfl, ⟨rfl, rfl⟩, trivial⟩
    · have H := bf h H
      refine wk ?_
      cases H
      refine iq_e (fun hq => ?_)
      cases hq
      refine wk ?_
      exact weak_of ⟨wn rfl (by first | rfl | simp), rfl, trivial⟩ ⟨rfl, ⟨rfl, rfl⟩, trivial⟩
  refine wk ?_
  cases H
  exact fin_ret (.cons (.tmp rfl) .nil) rfl rfl (by first | rfl | simp)
def leqRoamingAgreement (a0 : TRoamingAgreement) (a1 : TRoamingAgreement) : Option Bool :=
  bif !eqB a0.Home a1.Home then (some false) else (bif !eqB a0.Visited a1.Visited then (some false) else (bif !eqB a0.Price a1.Price then (some false) else (bif !eqB a0.Cap a1.Cap then (some false) else (some true))))
theorem leqRoamingAgreement_c {a0 : TRoamingAgreement} {a1 : TRoamingAgreement} {r : Bool} (H : leqRoamingAgreement a0 a1 = some r) : Fn Try.prog 120 [.agg (eTRoamingAgreement a0), .agg (eTRoamingAgreement a1)] [.c (.d (.b r))] := by
  refine fn_in Try.func120 rfl (by kernel_rfl) Try.ntmps120 rfl rfl rfl ?_
  refine wk ?_
  refine awc_cond rfl (fun h => ?_) (fun h => ?_)
  · have H := bt h H
    refine wk ?_
    cases H
    exact fin_ret (.cons (.tmp rfl) .nil) rfl rfl rfl
  · have H := bf h H
    refine wk ?_
    refine awc_cond rfl (fun h => ?_) (fun h => ?_)
    · have H := bt h H
      refine wk ?_
      cases H
      exact fin_ret (.cons (.tmp rfl) .nil) rfl rfl rfl
    · have H := bf h H
      refine wk ?_
      refine awc_cond rfl (fun h => ?_) (fun h => ?_)
      · have H := bt h H
        refine wk ?_
        cases H
        exact fin_ret (.cons (.tmp rfl) .nil) rfl rfl rfl
      · have H := bf h H
        refine wk ?_
        refine awc_cond rfl (fun h => ?_) (fun h => ?_)
        · have H := bt h H
          refine wk ?_
          cases H
          exact fin_ret (.cons (.tmp rfl) .nil) rfl rfl rfl
        · have H := bf h H
          refine wk ?_
          cases H
          exact fin_ret (.cons (.tmp rfl) .nil) rfl rfl rfl
def leqRoamingAgreementS_L1 (a0 : List TRoamingAgreement) (a1 : List TRoamingAgreement) : Int → Option (Step (Int) (Bool))
  | v1 => bif ltB v1 ((a0.length : Nat) : Int) then (Option.bind (ix a0 v1) fun x2 => Option.bind (ix a1 v1) fun x3 => Option.bind (leqRoamingAgreement x2 x3) fun r4 => bif !r4 then (dn (some false)) else (some (.next (WR (v1 + 1))))) else (dn (some true))
def leqRoamingAgreementS (a0 : List TRoamingAgreement) (a1 : List TRoamingAgreement) : Option Bool :=
  bif !eqB ((a0.length : Nat) : Int) ((a1.length : Nat) : Int) then (some false) else (iter (leqRoamingAgreementS_L1 a0 a1) FU 0)
theorem leqRoamingAgreementS_c {a0 : List TRoamingAgreement} {a1 : List TRoamingAgreement} {r : Bool} (H : leqRoamingAgreementS a0 a1 = some r) : Fn Try.prog 61 [aL (a0.map eTRoamingAgreement), aL (a1.map eTRoamingAgreement)] [.c (.d (.b r))] := by
  refine fn_in Try.func61 rfl (by kernel_rfl) Try.ntmps61 rfl rfl rfl ?_
  refine wkd ?_
  refine awc_cond rfl (fun h => ?_) (fun h => ?_)
  · have H := bt h H
    refine wkd ?_
    cases H
    exact fin_ret (.cons (.tmp rfl) .nil) rfl rfl rfl
  · have H := bf h H
    refine wkd ?_
    refine awc_iter (fun (q : Int) => ⟨[(0, .v (.c (.d false (.l (a0.map eTRoamingAgreement))))), (1, .v (.c (.d false (.l (a1.map eTRoamingAgreement))))), (5, tI q)], [], 0⟩) H (weak_of ⟨rfl, rfl, rfl, rfl, rfl, rfl, trivial⟩ trivial) ?_
    rintro v1 o H
    try dsimp only
    refine wkd ?_
    refine awc_cond rfl (fun h => ?_) (fun h => ?_)
    · have H := bt h H
      refine wkd ?_
      obtain ⟨x2, hx2, H⟩ := ob H
      refine dr_n rfl (xdT (enc := eTRoamingAgreement) hx2 (fun _ => rfl) rfl rfl rfl) ?_
      refine wkd ?_
      obtain ⟨x3, hx3, H⟩ := ob H
      refine dr_n rfl (xdT (enc := eTRoamingAgreement) hx3 (fun _ => rfl) rfl rfl rfl) ?_
      refine wkd ?_
      obtain ⟨r4, hr4, H⟩ := ob H
      refine dr_n rfl (ca rfl rfl rfl (leqRoamingAgreement_c hr4) trivial rfl rfl rfl rfl) ?_
      refine wkd ?_
      refine awc_cond rfl (fun h => ?_) (fun h => ?_)
      · have H := bt h H
        refine wkd ?_
        obtain ⟨r0, Hd, rfl⟩ := dnE H
        refine iq_r (fun hq => ?_)
        have H := Hd.trans (congrArg some hq)
        refine wkd ?_
        cases H
        exact fin_ret (.cons (.tmp rfl) .nil) rfl rfl rfl
      · have H := bf h H
        refine wkd ?_
        cases H
        refine iq_n ?_
        exact weak_of ⟨rfl, rfl, rfl, rfl, rfl, rfl, trivial⟩ trivial
    · have H := bf h H
      refine wkd ?_
      obtain ⟨r0, Hd, rfl⟩ := dnE H
      refine iq_e (fun hq => ?_)
      have H := Hd.trans (congrArg some hq)
      refine wkd ?_
      cases H
      exact fin_ret (.cons (.tmp rfl) .nil) rfl rfl rfl
def lmarkRoamingAgreementS_z_L1 (a0 : List TRoamingAgreement) : (Int × Int) → Option (Step (Int × Int) (Int))
  | (v1, v2) => bif ltB v2 ((a0.length : Nat) : Int) then (Option.bind (ix a0 v2) fun x8 => Option.bind (ix a0 v2) fun x9 => Option.bind (ix a0 v2) fun x10 => Option.bind (ix a0 v2) fun x11 => some (.next (WR ((WR ((WR ((WR (v1 + 1)) + 1)) + 1)) + 1), WR (v2 + 1)))) else (some (.done v1))
def lmarkRoamingAgreementS_z (a0 : List TRoamingAgreement) (a1 : Int) : Option Int :=
  Option.bind (iter (lmarkRoamingAgreementS_z_L1 a0) FU (a1, 0)) fun (v7 : Int) => some v7
theorem lmarkRoamingAgreementS_z_c {a0 : List TRoamingAgreement} {a1 : Int} {r : Int} (H : lmarkRoamingAgreementS_z a0 a1 = some r) : FnM Try.prog 63 [.v (.c (.z (.l (a0.map eTRoamingAgreement)))), tI a1] r := by
  refine fn_inM Try.func63 rfl (by kernel_rfl) Try.ntmps63 rfl rfl rfl ?_
  refine wk ?_
  obtain ⟨v7, Hj, H⟩ := ob H
  refine awc_jblk ⟨[(1, tI v7)], [], 0⟩ ?_ ?_
  · refine wk ?_
    refine awc_iter (fun (q : Int × Int) => ⟨[(0, .v (.c (.z (.l (a0.map eTRoamingAgreement))))), (1, tI q.1), (5, tI q.2)], [], 0⟩) Hj (weak_of ⟨rfl, rfl, rfl, rfl, rfl, rfl, trivial⟩ trivial) ?_
    rintro ⟨v1, v2⟩ o H
    try dsimp only
    refine wk ?_
    refine awc_cond rfl (fun h => ?_) (fun h => ?_)
    · have H := bt h H
      refine wk ?_
      obtain ⟨x8, hx8, H⟩ := ob H
      refine awr_n rfl (xzT (enc := eTRoamingAgreement) hx8 (fun _ => rfl) rfl rfl rfl) ?_
      refine wk ?_
      obtain ⟨x9, hx9, H⟩ := ob H
      refine awr_n rfl (xzT (enc := eTRoamingAgreement) hx9 (fun _ => rfl) rfl rfl rfl) ?_
      refine wk ?_
      obtain ⟨x10, hx10, H⟩ := ob H
      refine awr_n rfl (xzT (enc := eTRoamingAgreement) hx10 (fun _ => rfl) rfl rfl rfl) ?_
      refine wk ?_
      obtain ⟨x11, hx11, H⟩ := ob H
      refine awr_n rfl (xzT (enc := eTRoamingAgreement) hx11 (fun _ => rfl) rfl rfl rfl) ?_
      refine wk ?_
      cases H
      refine iq_n ?_
      exact weak_of ⟨rfl, rfl, rfl, rfl, rfl, rfl, trivial⟩ trivial
    · have H := bf h H
      refine wk ?_
      cases H
      refine iq_e (fun hq => ?_)
      cases hq
      refine wk ?_
      exact weak_of ⟨rfl, rfl, trivial⟩ trivial
  refine wk ?_
  cases H
  exact fin_ret (.cons (.tmp rfl) .nil) rfl rfl rfl
def lmarkRoamingAgreementS_L1  : (Int × Int × List TRoamingAgreement) → Option (Step (Int × Int × List TRoamingAgreement) (Int × List TRoamingAgreement))
  | (v1, v2, v3) => bif ltB v2 ((v3.length : Nat) : Int) then (Option.bind (ix v3 v2) fun x10 => Option.bind (ix (v3.set (v2).toNat (⟨v1, x10.Visited, x10.Price, x10.Cap⟩ : TRoamingAgreement)) v2) fun x11 => Option.bind (ix ((v3.set (v2).toNat (⟨v1, x10.Visited, x10.Price, x10.Cap⟩ : TRoamingAgreement)).set (v2).toNat (⟨x11.Home, WR (v1 + 1), x11.Price, x11.Cap⟩ : TRoamingAgreement)) v2) fun x12 => Option.bind (ix (((v3.set (v2).toNat (⟨v1, x10.Visited, x10.Price, x10.Cap⟩ : TRoamingAgreement)).set (v2).toNat (⟨x11.Home, WR (v1 + 1), x11.Price, x11.Cap⟩ : TRoamingAgreement)).set (v2).toNat (⟨x12.Home, x12.Visited, WR ((WR (v1 + 1)) + 1), x12.Cap⟩ : TRoamingAgreement)) v2) fun x13 => some (.next (WR ((WR ((WR ((WR (v1 + 1)) + 1)) + 1)) + 1), WR (v2 + 1), ((((v3.set (v2).toNat (⟨v1, x10.Visited, x10.Price, x10.Cap⟩ : TRoamingAgreement)).set (v2).toNat (⟨x11.Home, WR (v1 + 1), x11.Price, x11.Cap⟩ : TRoamingAgreement)).set (v2).toNat (⟨x12.Home, x12.Visited, WR ((WR (v1 + 1)) + 1), x12.Cap⟩ : TRoamingAgreement)).set (v2).toNat (⟨x13.Home, x13.Visited, x13.Price, WR ((WR ((WR (v1 + 1)) + 1)) + 1)⟩ : TRoamingAgreement))))) else (some (.done (v1, v3)))
def lmarkRoamingAgreementS (a0 : List TRoamingAgreement) (a1 : Int) : Option (Int × List TRoamingAgreement) :=
  Option.bind (iter (lmarkRoamingAgreementS_L1) FU (a1, 0, a0)) fun ((v8, v9) : Int × List TRoamingAgreement) => some (v8, v9)
theorem lmarkRoamingAgreementS_c {a0 : List TRoamingAgreement} {a1 : Int} {r : Int × List TRoamingAgreement} (H : lmarkRoamingAgreementS a0 a1 = some r) : FnW Try.prog 63 (.row 62 4 (a0.map eTRoamingAgreement) false true) [.v (.c (.w 200 a0.length)), tI a1] (.row 62 4 (r.2.map eTRoamingAgreement) false true) [.c (.d (.i .i64 r.1))] := by
  refine fn_inW Try.func63 rfl (by kernel_rfl) Try.ntmps63 rfl rfl rfl rfl rfl ?_
  refine wk ?_
  obtain ⟨⟨v8, v9⟩, Hj, H⟩ := ob H
  refine awc_jblk ⟨[(1, tI v8)], [(200, .row 62 4 (v9.map eTRoamingAgreement) false true)], 210⟩ ?_ ?_
  · refine wk ?_
    refine awc_iter (fun (q : Int × Int × List TRoamingAgreement) => ⟨[(0, .v (.c (.w 200 q.2.2.length))), (1, tI q.1), (5, tI q.2.1)], [(200, .row 62 4 (q.2.2.map eTRoamingAgreement) false true)], 210⟩) Hj (weak_of ⟨wn rfl (by first | rfl | simp), rfl, rfl, rfl, rfl, rfl, trivial⟩ ⟨rfl, ⟨rfl, rfl⟩, trivial⟩) ?_
    rintro ⟨v1, v2, v3⟩ o H
    try dsimp only
    refine wk ?_
    refine awc_cond rfl (fun h => ?_) (fun h => ?_)
    · have H := bt h H
      refine wk ?_
      obtain ⟨x10, hx10, H⟩ := ob H
      refine awr_n rfl (xwT hx10 (by first | rfl | simp) rfl rfl rfl) ?_
      refine wk ?_
      refine awr_step rfl (soT (enc := eTRoamingAgreement) (a' := (⟨v1, x10.Visited, x10.Price, x10.Cap⟩ : TRoamingAgreement)) hx10 rfl rfl rfl rfl rfl rfl rfl) ?_
      refine wk ?_
      obtain ⟨x11, hx11, H⟩ := ob H
      refine awr_n rfl (xwT hx11 (by first | rfl | simp) rfl rfl rfl) ?_
      refine wk ?_
      refine awr_step rfl (soT (enc := eTRoamingAgreement) (a' := (⟨x11.Home, WR (v1 + 1), x11.Price, x11.Cap⟩ : TRoamingAgreement)) hx11 rfl rfl rfl rfl rfl rfl rfl) ?_
      refine wk ?_
      obtain ⟨x12, hx12, H⟩ := ob H
      refine awr_n rfl (xwT hx12 (by first | rfl | simp) rfl rfl rfl) ?_
      refine wk ?_
      refine awr_step rfl (soT (enc := eTRoamingAgreement) (a' := (⟨x12.Home, x12.Visited, WR ((WR (v1 + 1)) + 1), x12.Cap⟩ : TRoamingAgreement)) hx12 rfl rfl rfl rfl rfl rfl rfl) ?_
      refine wk ?_
      obtain ⟨x13, hx13, H⟩ := ob H
      refine awr_n rfl (xwT hx13 (by first | rfl | simp) rfl rfl rfl) ?_
      refine wk ?_
      refine awr_step rfl (soT (enc := eTRoamingAgreement) (a' := (⟨x13.Home, x13.Visited, x13.Price, WR ((WR ((WR (v1 + 1)) + 1)) + 1)⟩ : TRoamingAgreement)) hx13 rfl rfl rfl rfl rfl rfl rfl) ?_
      refine wk ?_
      cases H
      refine iq_n ?_
      exact weak_of ⟨wn rfl (by first | rfl | simp), rfl, rfl, rfl, rfl, rfl, trivial⟩ ⟨rfl, ⟨rfl, rfl⟩, trivial⟩
    · have H := bf h H
      refine wk ?_
      cases H
      refine iq_e (fun hq => ?_)
      cases hq
      refine wk ?_
      exact weak_of ⟨rfl, rfl, trivial⟩ ⟨rfl, ⟨rfl, rfl⟩, trivial⟩
  refine wk ?_
  cases H
  exact fin_retW (.cons (.tmp rfl) .nil) rfl rfl rfl rfl (by first | rfl | simp)
def lszRegistrationS (a0 : List TRegistration) (a1 : Int) : Option Int :=
  bif ltB (WR (a1 - ((a0.length : Nat) : Int))) 0 then (some (-1)) else (some (WR (a1 - ((a0.length : Nat) : Int))))
theorem lszRegistrationS_c {a0 : List TRegistration} {a1 : Int} {r : Int} (H : lszRegistrationS a0 a1 = some r) : Fn Try.prog 66 [aL (a0.map eTRegistration), aI a1] [.c (.d (.i .i64 r))] := by
  refine fn_in Try.func66 rfl (by kernel_rfl) Try.ntmps66 rfl rfl rfl ?_
  refine wk ?_
  refine awc_cond rfl (fun h => ?_) (fun h => ?_)
  · have H := bt h H
    refine wk ?_
    cases H
    exact fin_ret (.cons (.tmp rfl) .nil) rfl rfl rfl
  · have H := bf h H
    refine wk ?_
    cases H
    exact fin_ret (.cons (.tmp rfl) .nil) rfl rfl rfl
def lszIntS (a0 : List Int) (a1 : Int) : Option Int :=
  bif ltB (WR (a1 - ((a0.length : Nat) : Int))) 0 then (some (-1)) else (some (WR (a1 - ((a0.length : Nat) : Int))))
theorem lszIntS_c {a0 : List Int} {a1 : Int} {r : Int} (H : lszIntS a0 a1 = some r) : Fn Try.prog 122 [aL (a0.map eI), aI a1] [.c (.d (.i .i64 r))] := by
  refine fn_in Try.func122 rfl (by kernel_rfl) Try.ntmps122 rfl rfl rfl ?_
  refine wk ?_
  refine awc_cond rfl (fun h => ?_) (fun h => ?_)
  · have H := bt h H
    refine wk ?_
    cases H
    exact fin_ret (.cons (.tmp rfl) .nil) rfl rfl rfl
  · have H := bf h H
    refine wk ?_
    cases H
    exact fin_ret (.cons (.tmp rfl) .nil) rfl rfl rfl
def lszSubscription (a0 : TSubscription) (a1 : Int) : Option Int :=
  Option.bind (lszIntS a0.RoamingNetworks a1) fun r1 => bif ltB r1 0 then (some (-1)) else (some r1)
theorem lszSubscription_c {a0 : TSubscription} {a1 : Int} {r : Int} (H : lszSubscription a0 a1 = some r) : Fn Try.prog 67 [.agg (eTSubscription a0), aI a1] [.c (.d (.i .i64 r))] := by
  refine fn_in Try.func67 rfl (by kernel_rfl) Try.ntmps67 rfl rfl rfl ?_
  refine wk ?_
  obtain ⟨r1, hr1, H⟩ := ob H
  refine awr_n rfl (ca rfl rfl rfl (lszIntS_c hr1) trivial rfl rfl rfl rfl) ?_
  refine wk ?_
  refine awc_cond rfl (fun h => ?_) (fun h => ?_)
  · have H := bt h H
    refine wk ?_
    cases H
    exact fin_ret (.cons (.tmp rfl) .nil) rfl rfl rfl
  · have H := bf h H
    refine wk ?_
    cases H
    exact fin_ret (.cons (.tmp rfl) .nil) rfl rfl rfl
def ltoSubscriberID (a0 : TSubscriberID) : Option TSubscriberID :=
  some a0
theorem ltoSubscriberID_c {a0 : TSubscriberID} {r : TSubscriberID} (H : ltoSubscriberID a0 = some r) : Fn Try.prog 71 [.agg (eTSubscriberID a0)] [.agg [.d (.i .i64 r.Network), .d (.i .i64 r.Number)]] := by
  refine fn_in Try.func71 rfl (by kernel_rfl) Try.ntmps71 rfl rfl rfl ?_
  refine wk ?_
  cases H
  exact fin_ret (.cons (.cell rfl rfl rfl) .nil) rfl rfl rfl
def ltoTempID (a0 : TTempID) : Option TTempID :=
  some a0
theorem ltoTempID_c {a0 : TTempID} {r : TTempID} (H : ltoTempID a0 = some r) : Fn Try.prog 162 [.agg (eTTempID a0)] [.agg [.d (.i .i64 r.Pool), .d (.i .i64 r.Number)]] := by
  refine fn_in Try.func162 rfl (by kernel_rfl) Try.ntmps162 rfl rfl rfl ?_
  refine wk ?_
  cases H
  exact fin_ret (.cons (.cell rfl rfl rfl) .nil) rfl rfl rfl
def ltoRegistration (a0 : TRegistration) : Option TRegistration :=
  Option.bind (ltoSubscriberID a0.ID) fun r1 => Option.bind (ltoTempID a0.TempID) fun r2 => some (⟨r1, a0.Network, a0.Area, r2⟩ : TRegistration)
theorem ltoRegistration_c {a0 : TRegistration} {r : TRegistration} (H : ltoRegistration a0 = some r) : Fn Try.prog 127 [.agg (eTRegistration a0)] [.agg [.d (.i .i64 r.ID.Network), .d (.i .i64 r.ID.Number), .d (.i .i64 r.Network), .d (.i .i64 r.Area), .d (.i .i64 r.TempID.Pool), .d (.i .i64 r.TempID.Number)]] := by
  refine fn_in Try.func127 rfl (by kernel_rfl) Try.ntmps127 rfl rfl rfl ?_
  refine wk ?_
  obtain ⟨r1, hr1, H⟩ := ob H
  refine awr_n rfl (ca rfl rfl rfl (ltoSubscriberID_c hr1) trivial rfl rfl rfl rfl) ?_
  refine wk ?_
  obtain ⟨r2, hr2, H⟩ := ob H
  refine awr_n rfl (ca rfl rfl rfl (ltoTempID_c hr2) trivial rfl rfl rfl rfl) ?_
  refine wk ?_
  cases H
  exact fin_ret (.cons (.cell rfl rfl rfl) .nil) rfl rfl rfl
def ltoRegistrationS_L1 (a0 : List TRegistration) : (Int × List TRegistration) → Option (Step (Int × List TRegistration) (List TRegistration))
  | (v1, v2) => bif ltB v1 ((a0.length : Nat) : Int) then (Option.bind (ix a0 v1) fun x7 => Option.bind (ltoRegistration x7) fun r8 => Option.bind (ix v2 v1) fun x9 => some (.next (WR (v1 + 1), (v2.set (v1).toNat r8)))) else (some (.done v2))
def ltoRegistrationS (a0 : List TRegistration) : Option (List TRegistration) :=
  bif mkOk 48 ((a0.length : Nat) : Int) ((a0.length : Nat) : Int) then (Option.bind (iter (ltoRegistrationS_L1 a0) FU (0, (List.replicate (((a0.length : Nat) : Int)).toNat (⟨(⟨0, 0⟩ : TSubscriberID), 0, 0, (⟨0, 0⟩ : TTempID)⟩ : TRegistration)))) fun (v6 : List TRegistration) => some v6) else none
theorem ltoRegistrationS_c {a0 : List TRegistration} {r : List TRegistration} (H : ltoRegistrationS a0 = some r) : Fn Try.prog 69 [aL (a0.map eTRegistration)] [.c (.own 44 6 (r.map eTRegistration) r.length)] := by
  refine fn_in Try.func69 rfl (by kernel_rfl) Try.ntmps69 rfl rfl rfl ?_
  refine wk ?_
  obtain ⟨h, H⟩ := rq H
  refine awr_n rfl (mkT (enc := eTRegistration) (za := (⟨(⟨0, 0⟩ : TSubscriberID), 0, 0, (⟨0, 0⟩ : TTempID)⟩ : TRegistration)) h (by rfl) rfl rfl rfl rfl) ?_
  refine wk ?_
  obtain ⟨v6, Hj, H⟩ := ob H
  refine awc_jblk ⟨[(3, .v (.c (.w 0 v6.length)))], [(0, .row 44 6 (v6.map eTRegistration) true true)], 1⟩ ?_ ?_
  · refine wk ?_
    refine awc_iter (fun (q : Int × List TRegistration) => ⟨[(0, .v (.c (.d false (.l (a0.map eTRegistration))))), (3, .v (.c (.w 0 q.2.length))), (4, tI q.1)], [(0, .row 44 6 (q.2.map eTRegistration) true true)], 1⟩) Hj (weak_of ⟨rfl, rfl, wn rfl (by first | rfl | simp), rfl, rfl, rfl, trivial⟩ ⟨rfl, ⟨rfl, rfl⟩, trivial⟩) ?_
    rintro ⟨v1, v2⟩ o H
    try dsimp only
    refine wk ?_
    refine awc_cond rfl (fun h => ?_) (fun h => ?_)
    · have H := bt h H
      refine wk ?_
      obtain ⟨x7, hx7, H⟩ := ob H
      refine awr_n rfl (xdT (enc := eTRegistration) hx7 (fun _ => rfl) rfl rfl rfl) ?_
      refine wk ?_
      obtain ⟨r8, hr8, H⟩ := ob H
      refine awr_n rfl (ca rfl rfl rfl (ltoRegistration_c hr8) trivial rfl rfl rfl rfl) ?_
      refine wk ?_
      obtain ⟨x9, hx9, H⟩ := ob H
      refine awr_n rfl (xwT hx9 (by first | rfl | simp) rfl rfl rfl) ?_
      refine wk ?_
      refine awr_step rfl (soT (enc := eTRegistration) (a' := r8) hx9 rfl rfl rfl rfl rfl rfl rfl) ?_
      refine wk ?_
      cases H
      refine iq_n ?_
      exact weak_of ⟨rfl, rfl, wn rfl (by first | rfl | simp), rfl, rfl, rfl, trivial⟩ ⟨rfl, ⟨rfl, rfl⟩, trivial⟩
    · have H := bf h H
      refine wk ?_
      cases H
      refine iq_e (fun hq => ?_)
      cases hq
      refine wk ?_
      exact weak_of ⟨wn rfl (by first | rfl | simp), rfl, trivial⟩ ⟨rfl, ⟨rfl, rfl⟩, trivial⟩
  refine wk ?_
  cases H
  exact fin_ret (.cons (.tmp rfl) .nil) rfl rfl (by first | rfl | simp)
def ltoIntS_L1 (a0 : List Int) : (Int × List Int) → Option (Step (Int × List Int) (List Int))
  | (v1, v2) => bif ltB v1 ((a0.length : Nat) : Int) then (Option.bind (ix a0 v1) fun x6 => Option.bind (ix v2 v1) fun x7 => some (.next (WR (v1 + 1), (v2.set (v1).toNat x6)))) else (some (.done v2))
def ltoIntS (a0 : List Int) : Option (List Int) :=
  bif mkOk 8 ((a0.length : Nat) : Int) ((a0.length : Nat) : Int) then (Option.bind (iter (ltoIntS_L1 a0) FU (0, (List.replicate (((a0.length : Nat) : Int)).toNat 0))) fun (v5 : List Int) => some v5) else none
theorem ltoIntS_c {a0 : List Int} {r : List Int} (H : ltoIntS a0 = some r) : Fn Try.prog 128 [aL (a0.map eI)] [.c (.own 3 1 (r.map eI) r.length)] := by
  refine fn_in Try.func128 rfl (by kernel_rfl) Try.ntmps128 rfl rfl rfl ?_
  refine wk ?_
  obtain ⟨h, H⟩ := rq H
  refine awr_n rfl (mkT (enc := eI) (za := 0) h (by rfl) rfl rfl rfl rfl) ?_
  refine wk ?_
  obtain ⟨v5, Hj, H⟩ := ob H
  refine awc_jblk ⟨[(3, .v (.c (.w 0 v5.length)))], [(0, .row 3 1 (v5.map eI) true true)], 1⟩ ?_ ?_
  · refine wk ?_
    refine awc_iter (fun (q : Int × List Int) => ⟨[(0, .v (.c (.d false (.l (a0.map eI))))), (3, .v (.c (.w 0 q.2.length))), (4, tI q.1)], [(0, .row 3 1 (q.2.map eI) true true)], 1⟩) Hj (weak_of ⟨rfl, rfl, wn rfl (by first | rfl | simp), rfl, rfl, rfl, trivial⟩ ⟨rfl, ⟨rfl, rfl⟩, trivial⟩) ?_
    rintro ⟨v1, v2⟩ o H
    try dsimp only
    refine wk ?_
    refine awc_cond rfl (fun h => ?_) (fun h => ?_)
    · have H := bt h H
      refine wk ?_
      obtain ⟨x6, hx6, H⟩ := ob H
      refine awr_n rfl (xdT (enc := eI) hx6 (fun _ => rfl) rfl rfl rfl) ?_
      refine wk ?_
      obtain ⟨x7, hx7, H⟩ := ob H
      refine awr_n rfl (xwT hx7 (by first | rfl | simp) rfl rfl rfl) ?_
      refine wk ?_
      refine awr_step rfl (soT (enc := eI) (a' := x6) hx7 rfl rfl rfl rfl rfl rfl rfl) ?_
      refine wk ?_
      cases H
      refine iq_n ?_
      exact weak_of ⟨rfl, rfl, wn rfl (by first | rfl | simp), rfl, rfl, rfl, trivial⟩ ⟨rfl, ⟨rfl, rfl⟩, trivial⟩
    · have H := bf h H
      refine wk ?_
      cases H
      refine iq_e (fun hq => ?_)
      cases hq
      refine wk ?_
      exact weak_of ⟨wn rfl (by first | rfl | simp), rfl, trivial⟩ ⟨rfl, ⟨rfl, rfl⟩, trivial⟩
  refine wk ?_
  cases H
  exact fin_ret (.cons (.tmp rfl) .nil) rfl rfl (by first | rfl | simp)
def ltoSubscription (a0 : TSubscription) : Option TSubscription :=
  Option.bind (ltoIntS a0.RoamingNetworks) fun r1 => some (⟨a0.RateLimit, a0.BestClass, a0.GrantSize, r1⟩ : TSubscription)
theorem ltoSubscription_c {a0 : TSubscription} {r : TSubscription} (H : ltoSubscription a0 = some r) : Fn Try.prog 70 [.agg (eTSubscription a0)] [.agg [.d (.i .i64 r.RateLimit), .d (.i .i64 r.BestClass), .d (.i .i64 r.GrantSize), .own 3 1 (r.RoamingNetworks.map eI) r.RoamingNetworks.length]] := by
  refine fn_in Try.func70 rfl (by kernel_rfl) Try.ntmps70 rfl rfl rfl ?_
  refine wk ?_
  obtain ⟨r1, hr1, H⟩ := ob H
  refine awr_n rfl (ca rfl rfl rfl (ltoIntS_c hr1) trivial rfl rfl rfl rfl) ?_
  refine wk ?_
  cases H
  exact fin_ret (.cons (.cell rfl rfl rfl) .nil) rfl rfl (by first | rfl | simp)
def leqTempID (a0 : TTempID) (a1 : TTempID) : Option Bool :=
  bif !eqB a0.Pool a1.Pool then (some false) else (bif !eqB a0.Number a1.Number then (some false) else (some true))
theorem leqTempID_c {a0 : TTempID} {a1 : TTempID} {r : Bool} (H : leqTempID a0 a1 = some r) : Fn Try.prog 129 [.agg (eTTempID a0), .agg (eTTempID a1)] [.c (.d (.b r))] := by
  refine fn_in Try.func129 rfl (by kernel_rfl) Try.ntmps129 rfl rfl rfl ?_
  refine wk ?_
  refine awc_cond rfl (fun h => ?_) (fun h => ?_)
  · have H := bt h H
    refine wk ?_
    cases H
    exact fin_ret (.cons (.tmp rfl) .nil) rfl rfl rfl
  · have H := bf h H
    refine wk ?_
    refine awc_cond rfl (fun h => ?_) (fun h => ?_)
    · have H := bt h H
      refine wk ?_
      cases H
      exact fin_ret (.cons (.tmp rfl) .nil) rfl rfl rfl
    · have H := bf h H
      refine wk ?_
      cases H
      exact fin_ret (.cons (.tmp rfl) .nil) rfl rfl rfl
def leqSubscriberID (a0 : TSubscriberID) (a1 : TSubscriberID) : Option Bool :=
  bif !eqB a0.Network a1.Network then (some false) else (bif !eqB a0.Number a1.Number then (some false) else (some true))
theorem leqSubscriberID_c {a0 : TSubscriberID} {a1 : TSubscriberID} {r : Bool} (H : leqSubscriberID a0 a1 = some r) : Fn Try.prog 163 [.agg (eTSubscriberID a0), .agg (eTSubscriberID a1)] [.c (.d (.b r))] := by
  refine fn_in Try.func163 rfl (by kernel_rfl) Try.ntmps163 rfl rfl rfl ?_
  refine wk ?_
  refine awc_cond rfl (fun h => ?_) (fun h => ?_)
  · have H := bt h H
    refine wk ?_
    cases H
    exact fin_ret (.cons (.tmp rfl) .nil) rfl rfl rfl
  · have H := bf h H
    refine wk ?_
    refine awc_cond rfl (fun h => ?_) (fun h => ?_)
    · have H := bt h H
      refine wk ?_
      cases H
      exact fin_ret (.cons (.tmp rfl) .nil) rfl rfl rfl
    · have H := bf h H
      refine wk ?_
      cases H
      exact fin_ret (.cons (.tmp rfl) .nil) rfl rfl rfl
def leqRegistration (a0 : TRegistration) (a1 : TRegistration) : Option Bool :=
  Option.bind (leqSubscriberID a0.ID a1.ID) fun r1 => bif !r1 then (some false) else (bif !eqB a0.Network a1.Network then (some false) else (bif !eqB a0.Area a1.Area then (some false) else (Option.bind (leqTempID a0.TempID a1.TempID) fun r2 => bif !r2 then (some false) else (some true))))
theorem leqRegistration_c {a0 : TRegistration} {a1 : TRegistration} {r : Bool} (H : leqRegistration a0 a1 = some r) : Fn Try.prog 130 [.agg (eTRegistration a0), .agg (eTRegistration a1)] [.c (.d (.b r))] := by
  refine fn_in Try.func130 rfl (by kernel_rfl) Try.ntmps130 rfl rfl rfl ?_
  refine wk ?_
  obtain ⟨r1, hr1, H⟩ := ob H
  refine awr_n rfl (ca rfl rfl rfl (leqSubscriberID_c hr1) trivial rfl rfl rfl rfl) ?_
  refine wk ?_
  refine awc_cond rfl (fun h => ?_) (fun h => ?_)
  · have H := bt h H
    refine wk ?_
    cases H
    exact fin_ret (.cons (.tmp rfl) .nil) rfl rfl rfl
  · have H := bf h H
    refine wk ?_
    refine awc_cond rfl (fun h => ?_) (fun h => ?_)
    · have H := bt h H
      refine wk ?_
      cases H
      exact fin_ret (.cons (.tmp rfl) .nil) rfl rfl rfl
    · have H := bf h H
      refine wk ?_
      refine awc_cond rfl (fun h => ?_) (fun h => ?_)
      · have H := bt h H
        refine wk ?_
        cases H
        exact fin_ret (.cons (.tmp rfl) .nil) rfl rfl rfl
      · have H := bf h H
        refine wk ?_
        obtain ⟨r2, hr2, H⟩ := ob H
        refine awr_n rfl (ca rfl rfl rfl (leqTempID_c hr2) trivial rfl rfl rfl rfl) ?_
        refine wk ?_
        refine awc_cond rfl (fun h => ?_) (fun h => ?_)
        · have H := bt h H
          refine wk ?_
          cases H
          exact fin_ret (.cons (.tmp rfl) .nil) rfl rfl rfl
        · have H := bf h H
          refine wk ?_
          cases H
          exact fin_ret (.cons (.tmp rfl) .nil) rfl rfl rfl
def leqRegistrationS_L1 (a0 : List TRegistration) (a1 : List TRegistration) : Int → Option (Step (Int) (Bool))
  | v1 => bif ltB v1 ((a0.length : Nat) : Int) then (Option.bind (ix a0 v1) fun x2 => Option.bind (ix a1 v1) fun x3 => Option.bind (leqRegistration x2 x3) fun r4 => bif !r4 then (dn (some false)) else (some (.next (WR (v1 + 1))))) else (dn (some true))
def leqRegistrationS (a0 : List TRegistration) (a1 : List TRegistration) : Option Bool :=
  bif !eqB ((a0.length : Nat) : Int) ((a1.length : Nat) : Int) then (some false) else (iter (leqRegistrationS_L1 a0 a1) FU 0)
theorem leqRegistrationS_c {a0 : List TRegistration} {a1 : List TRegistration} {r : Bool} (H : leqRegistrationS a0 a1 = some r) : Fn Try.prog 73 [aL (a0.map eTRegistration), aL (a1.map eTRegistration)] [.c (.d (.b r))] := by
  refine fn_in Try.func73 rfl (by kernel_rfl) Try.ntmps73 rfl rfl rfl ?_
  refine wkd ?_
  refine awc_cond rfl (fun h => ?_) (fun h => ?_)
  · have H := bt h H
    refine wkd ?_
    cases H
    exact fin_ret (.cons (.tmp rfl) .nil) rfl rfl rfl
  · have H := bf h H
    refine wkd ?_
    refine awc_iter (fun (q : Int) => ⟨[(0, .v (.c (.d false (.l (a0.map eTRegistration))))), (1, .v (.c (.d false (.l (a1.map eTRegistration))))), (5, tI q)], [], 0⟩) H (weak_of ⟨rfl, rfl, rfl, rfl, rfl, rfl, trivial⟩ trivial) ?_
    rintro v1 o H
    try dsimp only
    refine wkd ?_
    refine awc_cond rfl (fun h => ?_) (fun h => ?_)
    · have H := bt h H
      refine wkd ?_
      obtain ⟨x2, hx2, H⟩ := ob H
      refine dr_n rfl (xdT (enc := eTRegistration) hx2 (fun _ => rfl) rfl rfl rfl) ?_
      refine wkd ?_
      obtain ⟨x3, hx3, H⟩ := ob H
      refine dr_n rfl (xdT (enc := eTRegistration) hx3 (fun _ => rfl) rfl rfl rfl) ?_
      refine wkd ?_
      obtain ⟨r4, hr4, H⟩ := ob H
      refine dr_n rfl (ca rfl rfl rfl (leqRegistration_c hr4) trivial rfl rfl rfl rfl) ?_
      refine wkd ?_
      refine awc_cond rfl (fun h => ?_) (fun h => ?_)
      · have H := bt h H
        refine wkd ?_
        obtain ⟨r0, Hd, rfl⟩ := dnE H
        refine iq_r (fun hq => ?_)
        have H := Hd.trans (congrArg some hq)
        refine wkd ?_
        cases H
        exact fin_ret (.cons (.tmp rfl) .nil) rfl rfl rfl
      · have H := bf h H
        refine wkd ?_
        cases H
        refine iq_n ?_
        exact weak_of ⟨rfl, rfl, rfl, rfl, rfl, rfl, trivial⟩ trivial
    · have H := bf h H
      refine wkd ?_
      obtain ⟨r0, Hd, rfl⟩ := dnE H
      refine iq_e (fun hq => ?_)
      have H := Hd.trans (congrArg some hq)
      refine wkd ?_
      cases H
      exact fin_ret (.cons (.tmp rfl) .nil) rfl rfl rfl
def leqRoamingResult (a0 : TRoamingResult) (a1 : TRoamingResult) : Option Bool :=
  bif !eqB a0.Code a1.Code then (some false) else (Option.bind (leqRegistrationS a0.Registrations a1.Registrations) fun r1 => bif !r1 then (some false) else (bif !eqB a0.Cancelled a1.Cancelled then (some false) else (Option.bind (leqTempID a0.TempID a1.TempID) fun r2 => bif !r2 then (some false) else (some true))))
theorem leqRoamingResult_c {a0 : TRoamingResult} {a1 : TRoamingResult} {r : Bool} (H : leqRoamingResult a0 a1 = some r) : Fn Try.prog 72 [.agg (eTRoamingResult a0), .agg (eTRoamingResult a1)] [.c (.d (.b r))] := by
  refine fn_in Try.func72 rfl (by kernel_rfl) Try.ntmps72 rfl rfl rfl ?_
  refine wk ?_
  refine awc_cond rfl (fun h => ?_) (fun h => ?_)
  · have H := bt h H
    refine wk ?_
    cases H
    exact fin_ret (.cons (.tmp rfl) .nil) rfl rfl rfl
  · have H := bf h H
    refine wk ?_
    obtain ⟨r1, hr1, H⟩ := ob H
    refine awr_n rfl (ca rfl rfl rfl (leqRegistrationS_c hr1) trivial rfl rfl rfl rfl) ?_
    refine wk ?_
    refine awc_cond rfl (fun h => ?_) (fun h => ?_)
    · have H := bt h H
      refine wk ?_
      cases H
      exact fin_ret (.cons (.tmp rfl) .nil) rfl rfl rfl
    · have H := bf h H
      refine wk ?_
      refine awc_cond rfl (fun h => ?_) (fun h => ?_)
      · have H := bt h H
        refine wk ?_
        cases H
        exact fin_ret (.cons (.tmp rfl) .nil) rfl rfl rfl
      · have H := bf h H
        refine wk ?_
        obtain ⟨r2, hr2, H⟩ := ob H
        refine awr_n rfl (ca rfl rfl rfl (leqTempID_c hr2) trivial rfl rfl rfl rfl) ?_
        refine wk ?_
        refine awc_cond rfl (fun h => ?_) (fun h => ?_)
        · have H := bt h H
          refine wk ?_
          cases H
          exact fin_ret (.cons (.tmp rfl) .nil) rfl rfl rfl
        · have H := bf h H
          refine wk ?_
          cases H
          exact fin_ret (.cons (.tmp rfl) .nil) rfl rfl rfl
def leqIntS_L1 (a0 : List Int) (a1 : List Int) : Int → Option (Step (Int) (Bool))
  | v1 => bif ltB v1 ((a0.length : Nat) : Int) then (Option.bind (ix a0 v1) fun x2 => Option.bind (ix a1 v1) fun x3 => bif !eqB x2 x3 then (dn (some false)) else (some (.next (WR (v1 + 1))))) else (dn (some true))
def leqIntS (a0 : List Int) (a1 : List Int) : Option Bool :=
  bif !eqB ((a0.length : Nat) : Int) ((a1.length : Nat) : Int) then (some false) else (iter (leqIntS_L1 a0 a1) FU 0)
theorem leqIntS_c {a0 : List Int} {a1 : List Int} {r : Bool} (H : leqIntS a0 a1 = some r) : Fn Try.prog 40 [aL (a0.map eI), aL (a1.map eI)] [.c (.d (.b r))] := by
  refine fn_in Try.func40 rfl (by kernel_rfl) Try.ntmps40 rfl rfl rfl ?_
  refine wkd ?_
  refine awc_cond rfl (fun h => ?_) (fun h => ?_)
  · have H := bt h H
    refine wkd ?_
    cases H
    exact fin_ret (.cons (.tmp rfl) .nil) rfl rfl rfl
  · have H := bf h H
    refine wkd ?_
    refine awc_iter (fun (q : Int) => ⟨[(0, .v (.c (.d false (.l (a0.map eI))))), (1, .v (.c (.d false (.l (a1.map eI))))), (5, tI q)], [], 0⟩) H (weak_of ⟨rfl, rfl, rfl, rfl, rfl, rfl, trivial⟩ trivial) ?_
    rintro v1 o H
    try dsimp only
    refine wkd ?_
    refine awc_cond rfl (fun h => ?_) (fun h => ?_)
    · have H := bt h H
      refine wkd ?_
      obtain ⟨x2, hx2, H⟩ := ob H
      refine dr_n rfl (xdT (enc := eI) hx2 (fun _ => rfl) rfl rfl rfl) ?_
      refine wkd ?_
      obtain ⟨x3, hx3, H⟩ := ob H
      refine dr_n rfl (xdT (enc := eI) hx3 (fun _ => rfl) rfl rfl rfl) ?_
      refine wkd ?_
      refine awc_cond rfl (fun h => ?_) (fun h => ?_)
      · have H := bt h H
        refine wkd ?_
        obtain ⟨r0, Hd, rfl⟩ := dnE H
        refine iq_r (fun hq => ?_)
        have H := Hd.trans (congrArg some hq)
        refine wkd ?_
        cases H
        exact fin_ret (.cons (.tmp rfl) .nil) rfl rfl rfl
      · have H := bf h H
        refine wkd ?_
        cases H
        refine iq_n ?_
        exact weak_of ⟨rfl, rfl, rfl, rfl, rfl, rfl, trivial⟩ trivial
    · have H := bf h H
      refine wkd ?_
      obtain ⟨r0, Hd, rfl⟩ := dnE H
      refine iq_e (fun hq => ?_)
      have H := Hd.trans (congrArg some hq)
      refine wkd ?_
      cases H
      exact fin_ret (.cons (.tmp rfl) .nil) rfl rfl rfl
def leqSubscription (a0 : TSubscription) (a1 : TSubscription) : Option Bool :=
  bif !eqB a0.RateLimit a1.RateLimit then (some false) else (bif !eqB a0.BestClass a1.BestClass then (some false) else (bif !eqB a0.GrantSize a1.GrantSize then (some false) else (Option.bind (leqIntS a0.RoamingNetworks a1.RoamingNetworks) fun r1 => bif !r1 then (some false) else (some true))))
theorem leqSubscription_c {a0 : TSubscription} {a1 : TSubscription} {r : Bool} (H : leqSubscription a0 a1 = some r) : Fn Try.prog 74 [.agg (eTSubscription a0), .agg (eTSubscription a1)] [.c (.d (.b r))] := by
  refine fn_in Try.func74 rfl (by kernel_rfl) Try.ntmps74 rfl rfl rfl ?_
  refine wk ?_
  refine awc_cond rfl (fun h => ?_) (fun h => ?_)
  · have H := bt h H
    refine wk ?_
    cases H
    exact fin_ret (.cons (.tmp rfl) .nil) rfl rfl rfl
  · have H := bf h H
    refine wk ?_
    refine awc_cond rfl (fun h => ?_) (fun h => ?_)
    · have H := bt h H
      refine wk ?_
      cases H
      exact fin_ret (.cons (.tmp rfl) .nil) rfl rfl rfl
    · have H := bf h H
      refine wk ?_
      refine awc_cond rfl (fun h => ?_) (fun h => ?_)
      · have H := bt h H
        refine wk ?_
        cases H
        exact fin_ret (.cons (.tmp rfl) .nil) rfl rfl rfl
      · have H := bf h H
        refine wk ?_
        obtain ⟨r1, hr1, H⟩ := ob H
        refine awr_n rfl (ca rfl rfl rfl (leqIntS_c hr1) trivial rfl rfl rfl rfl) ?_
        refine wk ?_
        refine awc_cond rfl (fun h => ?_) (fun h => ?_)
        · have H := bt h H
          refine wk ?_
          cases H
          exact fin_ret (.cons (.tmp rfl) .nil) rfl rfl rfl
        · have H := bf h H
          refine wk ?_
          cases H
          exact fin_ret (.cons (.tmp rfl) .nil) rfl rfl rfl
def lmarkRegistrationS_z_L1 (a0 : List TRegistration) : (Int × Int) → Option (Step (Int × Int) (Int))
  | (v1, v2) => bif ltB v2 ((a0.length : Nat) : Int) then (Option.bind (ix a0 v2) fun x10 => Option.bind (ix a0 v2) fun x11 => Option.bind (ix a0 v2) fun x12 => Option.bind (ix a0 v2) fun x13 => Option.bind (ix a0 v2) fun x14 => Option.bind (ix a0 v2) fun x15 => some (.next (WR ((WR ((WR ((WR ((WR ((WR (v1 + 1)) + 1)) + 1)) + 1)) + 1)) + 1), WR (v2 + 1)))) else (some (.done v1))
def lmarkRegistrationS_z (a0 : List TRegistration) (a1 : Int) : Option Int :=
  Option.bind (iter (lmarkRegistrationS_z_L1 a0) FU (a1, 0)) fun (v9 : Int) => some v9
theorem lmarkRegistrationS_z_c {a0 : List TRegistration} {a1 : Int} {r : Int} (H : lmarkRegistrationS_z a0 a1 = some r) : FnM Try.prog 75 [.v (.c (.z (.l (a0.map eTRegistration)))), tI a1] r := by
  refine fn_inM Try.func75 rfl (by kernel_rfl) Try.ntmps75 rfl rfl rfl ?_
  refine wk ?_
  obtain ⟨v9, Hj, H⟩ := ob H
  refine awc_jblk ⟨[(1, tI v9)], [], 0⟩ ?_ ?_
  · refine wk ?_
    refine awc_iter (fun (q : Int × Int) => ⟨[(0, .v (.c (.z (.l (a0.map eTRegistration))))), (1, tI q.1), (5, tI q.2)], [], 0⟩) Hj (weak_of ⟨rfl, rfl, rfl, rfl, rfl, rfl, trivial⟩ trivial) ?_
    rintro ⟨v1, v2⟩ o H
    try dsimp only
    refine wk ?_
    refine awc_cond rfl (fun h => ?_) (fun h => ?_)
    · have H := bt h H
      refine wk ?_
      obtain ⟨x10, hx10, H⟩ := ob H
      refine awr_n rfl (xzT (enc := eTRegistration) hx10 (fun _ => rfl) rfl rfl rfl) ?_
      refine wk ?_
      obtain ⟨x11, hx11, H⟩ := ob H
      refine awr_n rfl (xzT (enc := eTRegistration) hx11 (fun _ => rfl) rfl rfl rfl) ?_
      refine wk ?_
      obtain ⟨x12, hx12, H⟩ := ob H
      refine awr_n rfl (xzT (enc := eTRegistration) hx12 (fun _ => rfl) rfl rfl rfl) ?_
      refine wk ?_
      obtain ⟨x13, hx13, H⟩ := ob H
      refine awr_n rfl (xzT (enc := eTRegistration) hx13 (fun _ => rfl) rfl rfl rfl) ?_
      refine wk ?_
      obtain ⟨x14, hx14, H⟩ := ob H
      refine awr_n rfl (xzT (enc := eTRegistration) hx14 (fun _ => rfl) rfl rfl rfl) ?_
      refine wk ?_
      obtain ⟨x15, hx15, H⟩ := ob H
      refine awr_n rfl (xzT (enc := eTRegistration) hx15 (fun _ => rfl) rfl rfl rfl) ?_
      refine wk ?_
      cases H
      refine iq_n ?_
      exact weak_of ⟨rfl, rfl, rfl, rfl, rfl, rfl, trivial⟩ trivial
    · have H := bf h H
      refine wk ?_
      cases H
      refine iq_e (fun hq => ?_)
      cases hq
      refine wk ?_
      exact weak_of ⟨rfl, rfl, trivial⟩ trivial
  refine wk ?_
  cases H
  exact fin_ret (.cons (.tmp rfl) .nil) rfl rfl rfl
def lmarkRegistrationS_L1  : (Int × Int × List TRegistration) → Option (Step (Int × Int × List TRegistration) (Int × List TRegistration))
  | (v1, v2, v3) => bif ltB v2 ((v3.length : Nat) : Int) then (Option.bind (ix v3 v2) fun x12 => Option.bind (ix (v3.set (v2).toNat (⟨(⟨v1, x12.ID.Number⟩ : TSubscriberID), x12.Network, x12.Area, x12.TempID⟩ : TRegistration)) v2) fun x13 => Option.bind (ix ((v3.set (v2).toNat (⟨(⟨v1, x12.ID.Number⟩ : TSubscriberID), x12.Network, x12.Area, x12.TempID⟩ : TRegistration)).set (v2).toNat (⟨(⟨x13.ID.Network, WR (v1 + 1)⟩ : TSubscriberID), x13.Network, x13.Area, x13.TempID⟩ : TRegistration)) v2) fun x14 => Option.bind (ix (((v3.set (v2).toNat (⟨(⟨v1, x12.ID.Number⟩ : TSubscriberID), x12.Network, x12.Area, x12.TempID⟩ : TRegistration)).set (v2).toNat (⟨(⟨x13.ID.Network, WR (v1 + 1)⟩ : TSubscriberID), x13.Network, x13.Area, x13.TempID⟩ : TRegistration)).set (v2).toNat (⟨x14.ID, WR ((WR (v1 + 1)) + 1), x14.Area, x14.TempID⟩ : TRegistration)) v2) fun x15 => Option.bind (ix ((((v3.set (v2).toNat (⟨(⟨v1, x12.ID.Number⟩ : TSubscriberID), x12.Network, x12.Area, x12.TempID⟩ : TRegistration)).set (v2).toNat (⟨(⟨x13.ID.Network, WR (v1 + 1)⟩ : TSubscriberID), x13.Network, x13.Area, x13.TempID⟩ : TRegistration)).set (v2).toNat (⟨x14.ID, WR ((WR (v1 + 1)) + 1), x14.Area, x14.TempID⟩ : TRegistration)).set (v2).toNat (⟨x15.ID, x15.Network, WR ((WR ((WR (v1 + 1)) + 1)) + 1), x15.TempID⟩ : TRegistration)) v2) fun x16 => Option.bind (ix (((((v3.set (v2).toNat (⟨(⟨v1, x12.ID.Number⟩ : TSubscriberID), x12.Network, x12.Area, x12.TempID⟩ : TRegistration)).set (v2).toNat (⟨(⟨x13.ID.Network, WR (v1 + 1)⟩ : TSubscriberID), x13.Network, x13.Area, x13.TempID⟩ : TRegistration)).set (v2).toNat (⟨x14.ID, WR ((WR (v1 + 1)) + 1), x14.Area, x14.TempID⟩ : TRegistration)).set (v2).toNat (⟨x15.ID, x15.Network, WR ((WR ((WR (v1 + 1)) + 1)) + 1), x15.TempID⟩ : TRegistration)).set (v2).toNat (⟨x16.ID, x16.Network, x16.Area, (⟨WR ((WR ((WR ((WR (v1 + 1)) + 1)) + 1)) + 1), x16.TempID.Number⟩ : TTempID)⟩ : TRegistration)) v2) fun x17 => some (.next (WR ((WR ((WR ((WR ((WR ((WR (v1 + 1)) + 1)) + 1)) + 1)) + 1)) + 1), WR (v2 + 1), ((((((v3.set (v2).toNat (⟨(⟨v1, x12.ID.Number⟩ : TSubscriberID), x12.Network, x12.Area, x12.TempID⟩ : TRegistration)).set (v2).toNat (⟨(⟨x13.ID.Network, WR (v1 + 1)⟩ : TSubscriberID), x13.Network, x13.Area, x13.TempID⟩ : TRegistration)).set (v2).toNat (⟨x14.ID, WR ((WR (v1 + 1)) + 1), x14.Area, x14.TempID⟩ : TRegistration)).set (v2).toNat (⟨x15.ID, x15.Network, WR ((WR ((WR (v1 + 1)) + 1)) + 1), x15.TempID⟩ : TRegistration)).set (v2).toNat (⟨x16.ID, x16.Network, x16.Area, (⟨WR ((WR ((WR ((WR (v1 + 1)) + 1)) + 1)) + 1), x16.TempID.Number⟩ : TTempID)⟩ : TRegistration)).set (v2).toNat (⟨x17.ID, x17.Network, x17.Area, (⟨x17.TempID.Pool, WR ((WR ((WR ((WR ((WR (v1 + 1)) + 1)) + 1)) + 1)) + 1)⟩ : TTempID)⟩ : TRegistration))))) else (some (.done (v1, v3)))
def lmarkRegistrationS (a0 : List TRegistration) (a1 : Int) : Option (Int × List TRegistration) :=
  Option.bind (iter (lmarkRegistrationS_L1) FU (a1, 0, a0)) fun ((v10, v11) : Int × List TRegistration) => some (v10, v11)
theorem lmarkRegistrationS_c {a0 : List TRegistration} {a1 : Int} {r : Int × List TRegistration} (H : lmarkRegistrationS a0 a1 = some r) : FnW Try.prog 75 (.row 44 6 (a0.map eTRegistration) false true) [.v (.c (.w 200 a0.length)), tI a1] (.row 44 6 (r.2.map eTRegistration) false true) [.c (.d (.i .i64 r.1))] := by
  refine fn_inW Try.func75 rfl (by kernel_rfl) Try.ntmps75 rfl rfl rfl rfl rfl ?_
  refine wk ?_
  obtain ⟨⟨v10, v11⟩, Hj, H⟩ := ob H
  refine awc_jblk ⟨[(1, tI v10)], [(200, .row 44 6 (v11.map eTRegistration) false true)], 210⟩ ?_ ?_
  · refine wk ?_
    refine awc_iter (fun (q : Int × Int × List TRegistration) => ⟨[(0, .v (.c (.w 200 q.2.2.length))), (1, tI q.1), (5, tI q.2.1)], [(200, .row 44 6 (q.2.2.map eTRegistration) false true)], 210⟩) Hj (weak_of ⟨wn rfl (by first | rfl | simp), rfl, rfl, rfl, rfl, rfl, trivial⟩ ⟨rfl, ⟨rfl, rfl⟩, trivial⟩) ?_
    rintro ⟨v1, v2, v3⟩ o H
    try dsimp only
    refine wk ?_
    refine awc_cond rfl (fun h => ?_) (fun h => ?_)
    · have H := bt h H
      refine wk ?_
      obtain ⟨x12, hx12, H⟩ := ob H
      refine awr_n rfl (xwT hx12 (by first | rfl | simp) rfl rfl rfl) ?_
      refine wk ?_
      refine awr_step rfl (soT (enc := eTRegistration) (a' := (⟨(⟨v1, x12.ID.Number⟩ : TSubscriberID), x12.Network, x12.Area, x12.TempID⟩ : TRegistration)) hx12 rfl rfl rfl rfl rfl rfl rfl) ?_
      refine wk ?_
      obtain ⟨x13, hx13, H⟩ := ob H
      refine awr_n rfl (xwT hx13 (by first | rfl | simp) rfl rfl rfl) ?_
      refine wk ?_
      refine awr_step rfl (soT (enc := eTRegistration) (a' := (⟨(⟨x13.ID.Network, WR (v1 + 1)⟩ : TSubscriberID), x13.Network, x13.Area, x13.TempID⟩ : TRegistration)) hx13 rfl rfl rfl rfl rfl rfl rfl) ?_
      refine wk ?_
      obtain ⟨x14, hx14, H⟩ := ob H
      refine awr_n rfl (xwT hx14 (by first | rfl | simp) rfl rfl rfl) ?_
      refine wk ?_
      refine awr_step rfl (soT (enc := eTRegistration) (a' := (⟨x14.ID, WR ((WR (v1 + 1)) + 1), x14.Area, x14.TempID⟩ : TRegistration)) hx14 rfl rfl rfl rfl rfl rfl rfl) ?_
      refine wk ?_
      obtain ⟨x15, hx15, H⟩ := ob H
      refine awr_n rfl (xwT hx15 (by first | rfl | simp) rfl rfl rfl) ?_
      refine wk ?_
      refine awr_step rfl (soT (enc := eTRegistration) (a' := (⟨x15.ID, x15.Network, WR ((WR ((WR (v1 + 1)) + 1)) + 1), x15.TempID⟩ : TRegistration)) hx15 rfl rfl rfl rfl rfl rfl rfl) ?_
      refine wk ?_
      obtain ⟨x16, hx16, H⟩ := ob H
      refine awr_n rfl (xwT hx16 (by first | rfl | simp) rfl rfl rfl) ?_
      refine wk ?_
      refine awr_step rfl (soT (enc := eTRegistration) (a' := (⟨x16.ID, x16.Network, x16.Area, (⟨WR ((WR ((WR ((WR (v1 + 1)) + 1)) + 1)) + 1), x16.TempID.Number⟩ : TTempID)⟩ : TRegistration)) hx16 rfl rfl rfl rfl rfl rfl rfl) ?_
      refine wk ?_
      obtain ⟨x17, hx17, H⟩ := ob H
      refine awr_n rfl (xwT hx17 (by first | rfl | simp) rfl rfl rfl) ?_
      refine wk ?_
      refine awr_step rfl (soT (enc := eTRegistration) (a' := (⟨x17.ID, x17.Network, x17.Area, (⟨x17.TempID.Pool, WR ((WR ((WR ((WR ((WR (v1 + 1)) + 1)) + 1)) + 1)) + 1)⟩ : TTempID)⟩ : TRegistration)) hx17 rfl rfl rfl rfl rfl rfl rfl) ?_
      refine wk ?_
      cases H
      refine iq_n ?_
      exact weak_of ⟨wn rfl (by first | rfl | simp), rfl, rfl, rfl, rfl, rfl, trivial⟩ ⟨rfl, ⟨rfl, rfl⟩, trivial⟩
    · have H := bf h H
      refine wk ?_
      cases H
      refine iq_e (fun hq => ?_)
      cases hq
      refine wk ?_
      exact weak_of ⟨rfl, rfl, trivial⟩ ⟨rfl, ⟨rfl, rfl⟩, trivial⟩
  refine wk ?_
  cases H
  exact fin_retW (.cons (.tmp rfl) .nil) rfl rfl rfl rfl (by first | rfl | simp)
def lmarkIntS_z_L1 (a0 : List Int) : (Int × Int) → Option (Step (Int × Int) (Int))
  | (v1, v2) => bif ltB v2 ((a0.length : Nat) : Int) then (Option.bind (ix a0 v2) fun x5 => some (.next (WR (v1 + 1), WR (v2 + 1)))) else (some (.done v1))
def lmarkIntS_z (a0 : List Int) (a1 : Int) : Option Int :=
  Option.bind (iter (lmarkIntS_z_L1 a0) FU (a1, 0)) fun (v4 : Int) => some v4
theorem lmarkIntS_z_c {a0 : List Int} {a1 : Int} {r : Int} (H : lmarkIntS_z a0 a1 = some r) : FnM Try.prog 43 [.v (.c (.z (.l (a0.map eI)))), tI a1] r := by
  refine fn_inM Try.func43 rfl (by kernel_rfl) Try.ntmps43 rfl rfl rfl ?_
  refine wk ?_
  obtain ⟨v4, Hj, H⟩ := ob H
  refine awc_jblk ⟨[(1, tI v4)], [], 0⟩ ?_ ?_
  · refine wk ?_
    refine awc_iter (fun (q : Int × Int) => ⟨[(0, .v (.c (.z (.l (a0.map eI))))), (1, tI q.1), (5, tI q.2)], [], 0⟩) Hj (weak_of ⟨rfl, rfl, rfl, rfl, rfl, rfl, trivial⟩ trivial) ?_
    rintro ⟨v1, v2⟩ o H
    try dsimp only
    refine wk ?_
    refine awc_cond rfl (fun h => ?_) (fun h => ?_)
    · have H := bt h H
      refine wk ?_
      obtain ⟨x5, hx5, H⟩ := ob H
      refine awr_n rfl (xzT (enc := eI) hx5 (fun _ => rfl) rfl rfl rfl) ?_
      refine wk ?_
      cases H
      refine iq_n ?_
      exact weak_of ⟨rfl, rfl, rfl, rfl, rfl, rfl, trivial⟩ trivial
    · have H := bf h H
      refine wk ?_
      cases H
      refine iq_e (fun hq => ?_)
      cases hq
      refine wk ?_
      exact weak_of ⟨rfl, rfl, trivial⟩ trivial
  refine wk ?_
  cases H
  exact fin_ret (.cons (.tmp rfl) .nil) rfl rfl rfl
def lmarkIntS_L1  : (Int × Int × List Int) → Option (Step (Int × Int × List Int) (Int × List Int))
  | (v1, v2, v3) => bif ltB v2 ((v3.length : Nat) : Int) then (Option.bind (ix v3 v2) fun x7 => some (.next (WR (v1 + 1), WR (v2 + 1), (v3.set (v2).toNat v1)))) else (some (.done (v1, v3)))
def lmarkIntS (a0 : List Int) (a1 : Int) : Option (Int × List Int) :=
  Option.bind (iter (lmarkIntS_L1) FU (a1, 0, a0)) fun ((v5, v6) : Int × List Int) => some (v5, v6)
theorem lmarkIntS_c {a0 : List Int} {a1 : Int} {r : Int × List Int} (H : lmarkIntS a0 a1 = some r) : FnW Try.prog 43 (.row 3 1 (a0.map eI) false true) [.v (.c (.w 200 a0.length)), tI a1] (.row 3 1 (r.2.map eI) false true) [.c (.d (.i .i64 r.1))] := by
  refine fn_inW Try.func43 rfl (by kernel_rfl) Try.ntmps43 rfl rfl rfl rfl rfl ?_
  refine wk ?_
  obtain ⟨⟨v5, v6⟩, Hj, H⟩ := ob H
  refine awc_jblk ⟨[(1, tI v5)], [(200, .row 3 1 (v6.map eI) false true)], 210⟩ ?_ ?_
  · refine wk ?_
    refine awc_iter (fun (q : Int × Int × List Int) => ⟨[(0, .v (.c (.w 200 q.2.2.length))), (1, tI q.1), (5, tI q.2.1)], [(200, .row 3 1 (q.2.2.map eI) false true)], 210⟩) Hj (weak_of ⟨wn rfl (by first | rfl | simp), rfl, rfl, rfl, rfl, rfl, trivial⟩ ⟨rfl, ⟨rfl, rfl⟩, trivial⟩) ?_
    rintro ⟨v1, v2, v3⟩ o H
    try dsimp only
    refine wk ?_
    refine awc_cond rfl (fun h => ?_) (fun h => ?_)
    · have H := bt h H
      refine wk ?_
      obtain ⟨x7, hx7, H⟩ := ob H
      refine awr_n rfl (xwT hx7 (by first | rfl | simp) rfl rfl rfl) ?_
      refine wk ?_
      refine awr_step rfl (soT (enc := eI) (a' := v1) hx7 rfl rfl rfl rfl rfl rfl rfl) ?_
      refine wk ?_
      cases H
      refine iq_n ?_
      exact weak_of ⟨wn rfl (by first | rfl | simp), rfl, rfl, rfl, rfl, rfl, trivial⟩ ⟨rfl, ⟨rfl, rfl⟩, trivial⟩
    · have H := bf h H
      refine wk ?_
      cases H
      refine iq_e (fun hq => ?_)
      cases hq
      refine wk ?_
      exact weak_of ⟨rfl, rfl, trivial⟩ ⟨rfl, ⟨rfl, rfl⟩, trivial⟩
  refine wk ?_
  cases H
  exact fin_retW (.cons (.tmp rfl) .nil) rfl rfl rfl rfl (by first | rfl | simp)
def lmarkSubscription_z (a0 : TSubscription) (a1 : Int) : Option Int :=
  Option.bind (lmarkIntS_z a0.RoamingNetworks a1) fun r1 => some r1
theorem lmarkSubscription_z_c {a0 : TSubscription} {a1 : Int} {r : Int} (H : lmarkSubscription_z a0 a1 = some r) : FnM Try.prog 76 [.v (.agg [.z (.i .i64 a0.RateLimit), .z (.i .i64 a0.BestClass), .z (.i .i64 a0.GrantSize), .z (.l (a0.RoamingNetworks.map eI))]), tI a1] r := by
  refine fn_inM Try.func76 rfl (by kernel_rfl) Try.ntmps76 rfl rfl rfl ?_
  refine wk ?_
  obtain ⟨r1, hr1, H⟩ := ob H
  refine awr_step rfl (cz rfl (lmarkIntS_z_c hr1) rfl rfl) ?_
  refine wk ?_
  cases H
  exact fin_ret (.cons (.tmp rfl) .nil) rfl rfl rfl
def lmarkSubscription (a0 : TSubscription) (a1 : Int) : Option (Int × List Int) :=
  Option.bind (lmarkIntS a0.RoamingNetworks a1) fun r1 => bif lenEq r1.2 a0.RoamingNetworks then (some (r1.1, r1.2)) else none
theorem lmarkSubscription_c {a0 : TSubscription} {a1 : Int} {r : Int × List Int} (H : lmarkSubscription a0 a1 = some r) : FnW Try.prog 76 (.row 3 1 (a0.RoamingNetworks.map eI) false true) [.v (.agg [.d false (.i .i64 a0.RateLimit), .d false (.i .i64 a0.BestClass), .d false (.i .i64 a0.GrantSize), .w 200 a0.RoamingNetworks.length]), tI a1] (.row 3 1 (r.2.map eI) false true) [.c (.d (.i .i64 r.1))] := by
  refine fn_inW Try.func76 rfl (by kernel_rfl) Try.ntmps76 rfl rfl rfl rfl rfl ?_
  refine wk ?_
  obtain ⟨r1, hr1, H⟩ := ob H
  obtain ⟨hl, H⟩ := rq H
  refine awr_step rfl (cw (o := 200) (lmarkIntS_c hr1) rfl rfl rfl rfl rfl rfl trivial rfl rfl rfl rfl) ?_
  refine awr_weak (weak_wnB (o := 200) (n := r1.2.length) rfl rfl (by repeat (first | exact trivial | refine ⟨leqE hl, ?_⟩ | refine ⟨rfl, ?_⟩)) (by repeat (first | exact trivial | refine ⟨leqE hl, ?_⟩ | refine ⟨rfl, ?_⟩))) ?_
  refine wk ?_
  cases H
  exact fin_retW (.cons (.tmp rfl) .nil) rfl rfl rfl rfl (by first | rfl | simp)
def lmarkRoamingResult_z (a0 : TRoamingResult) (a1 : Int) : Option Int :=
  Option.bind (lmarkRegistrationS_z a0.Registrations a1) fun r1 => some r1
theorem lmarkRoamingResult_z_c {a0 : TRoamingResult} {a1 : Int} {r : Int} (H : lmarkRoamingResult_z a0 a1 = some r) : FnM Try.prog 77 [.v (.agg [.z (.i .i64 a0.Code), .z (.l (a0.Registrations.map eTRegistration)), .z (.i .i64 a0.Cancelled), .z (.i .i64 a0.TempID.Pool), .z (.i .i64 a0.TempID.Number)]), tI a1] r := by
  refine fn_inM Try.func77 rfl (by kernel_rfl) Try.ntmps77 rfl rfl rfl ?_
  refine wk ?_
  obtain ⟨r1, hr1, H⟩ := ob H
  refine awr_step rfl (cz rfl (lmarkRegistrationS_z_c hr1) rfl rfl) ?_
  refine wk ?_
  cases H
  exact fin_ret (.cons (.tmp rfl) .nil) rfl rfl rfl
def lmarkRoamingResult (a0 : TRoamingResult) (a1 : Int) : Option (Int × List TRegistration) :=
  Option.bind (lmarkRegistrationS a0.Registrations a1) fun r1 => bif lenEq r1.2 a0.Registrations then (some (r1.1, r1.2)) else none
theorem lmarkRoamingResult_c {a0 : TRoamingResult} {a1 : Int} {r : Int × List TRegistration} (H : lmarkRoamingResult a0 a1 = some r) : FnW Try.prog 77 (.row 44 6 (a0.Registrations.map eTRegistration) false true) [.v (.agg [.d false (.i .i64 a0.Code), .w 200 a0.Registrations.length, .d false (.i .i64 a0.Cancelled), .d false (.i .i64 a0.TempID.Pool), .d false (.i .i64 a0.TempID.Number)]), tI a1] (.row 44 6 (r.2.map eTRegistration) false true) [.c (.d (.i .i64 r.1))] := by
  refine fn_inW Try.func77 rfl (by kernel_rfl) Try.ntmps77 rfl rfl rfl rfl rfl ?_
  refine wk ?_
  obtain ⟨r1, hr1, H⟩ := ob H
  obtain ⟨hl, H⟩ := rq H
  refine awr_step rfl (cw (o := 200) (lmarkRegistrationS_c hr1) rfl rfl rfl rfl rfl rfl trivial rfl rfl rfl rfl) ?_
  refine awr_weak (weak_wnB (o := 200) (n := r1.2.length) rfl rfl (by repeat (first | exact trivial | refine ⟨leqE hl, ?_⟩ | refine ⟨rfl, ?_⟩)) (by repeat (first | exact trivial | refine ⟨leqE hl, ?_⟩ | refine ⟨rfl, ?_⟩))) ?_
  refine wk ?_
  cases H
  exact fin_retW (.cons (.tmp rfl) .nil) rfl rfl rfl rfl (by first | rfl | simp)
def lheldRegistrationS_L1 (a0 : List TRegistration) : (Int × Int) → Option (Step (Int × Int) (Int))
  | (v1, v2) => bif ltB v2 ((a0.length : Nat) : Int) then (Option.bind (ix a0 v2) fun x3 => bif !eqB x3.ID.Network v1 then (dn (some (-1))) else (Option.bind (ix a0 v2) fun x4 => bif !eqB x4.ID.Number (WR (v1 + 1)) then (dn (some (-1))) else (Option.bind (ix a0 v2) fun x5 => bif !eqB x5.Network (WR ((WR (v1 + 1)) + 1)) then (dn (some (-1))) else (Option.bind (ix a0 v2) fun x6 => bif !eqB x6.Area (WR ((WR ((WR (v1 + 1)) + 1)) + 1)) then (dn (some (-1))) else (Option.bind (ix a0 v2) fun x7 => bif !eqB x7.TempID.Pool (WR ((WR ((WR ((WR (v1 + 1)) + 1)) + 1)) + 1)) then (dn (some (-1))) else (Option.bind (ix a0 v2) fun x8 => bif !eqB x8.TempID.Number (WR ((WR ((WR ((WR ((WR (v1 + 1)) + 1)) + 1)) + 1)) + 1)) then (dn (some (-1))) else (some (.next (WR ((WR ((WR ((WR ((WR ((WR (v1 + 1)) + 1)) + 1)) + 1)) + 1)) + 1), WR (v2 + 1)))))))))) else (dn (some v1))
def lheldRegistrationS (a0 : List TRegistration) (a1 : Int) : Option Int :=
  iter (lheldRegistrationS_L1 a0) FU (a1, 0)
theorem lheldRegistrationS_c {a0 : List TRegistration} {a1 : Int} {r : Int} (H : lheldRegistrationS a0 a1 = some r) : Fn Try.prog 131 [aL (a0.map eTRegistration), aI a1] [.c (.d (.i .i64 r))] := by
  refine fn_in Try.func131 rfl (by kernel_rfl) Try.ntmps131 rfl rfl rfl ?_
  refine wk ?_
  refine awc_iter (fun (q : Int × Int) => ⟨[(0, .v (.c (.d false (.l (a0.map eTRegistration))))), (1, tI q.1), (5, tI q.2)], [], 0⟩) H (weak_of ⟨rfl, rfl, rfl, rfl, rfl, rfl, trivial⟩ trivial) ?_
  rintro ⟨v1, v2⟩ o H
  try dsimp only
  refine wk ?_
  refine awc_cond rfl (fun h => ?_) (fun h => ?_)
  · have H := bt h H
    refine wk ?_
    obtain ⟨x3, hx3, H⟩ := ob H
    refine awr_n rfl (xdT (enc := eTRegistration) hx3 (fun _ => rfl) rfl rfl rfl) ?_
    refine wk ?_
    refine awc_cond rfl (fun h => ?_) (fun h => ?_)
    · have H := bt h H
      refine wk ?_
      obtain ⟨r0, Hd, rfl⟩ := dnE H
      refine iq_r (fun hq => ?_)
      have H := Hd.trans (congrArg some hq)
      refine wk ?_
      cases H
      exact fin_ret (.cons (.tmp rfl) .nil) rfl rfl rfl
    · have H := bf h H
      refine wk ?_
      obtain ⟨x4, hx4, H⟩ := ob H
      refine awr_n rfl (xdT (enc := eTRegistration) hx4 (fun _ => rfl) rfl rfl rfl) ?_
      refine wk ?_
      refine awc_cond rfl (fun h => ?_) (fun h => ?_)
      · have H := bt h H
        refine wk ?_
        obtain ⟨r0, Hd, rfl⟩ := dnE H
        refine iq_r (fun hq => ?_)
        have H := Hd.trans (congrArg some hq)
        refine wk ?_
        cases H
        exact fin_ret (.cons (.tmp rfl) .nil) rfl rfl rfl
      · have H := bf h H
        refine wk ?_
        obtain ⟨x5, hx5, H⟩ := ob H
        refine awr_n rfl (xdT (enc := eTRegistration) hx5 (fun _ => rfl) rfl rfl rfl) ?_
        refine wk ?_
        refine awc_cond rfl (fun h => ?_) (fun h => ?_)
        · have H := bt h H
          refine wk ?_
          obtain ⟨r0, Hd, rfl⟩ := dnE H
          refine iq_r (fun hq => ?_)
          have H := Hd.trans (congrArg some hq)
          refine wk ?_
          cases H
          exact fin_ret (.cons (.tmp rfl) .nil) rfl rfl rfl
        · have H := bf h H
          refine wk ?_
          obtain ⟨x6, hx6, H⟩ := ob H
          refine awr_n rfl (xdT (enc := eTRegistration) hx6 (fun _ => rfl) rfl rfl rfl) ?_
          refine wk ?_
          refine awc_cond rfl (fun h => ?_) (fun h => ?_)
          · have H := bt h H
            refine wk ?_
            obtain ⟨r0, Hd, rfl⟩ := dnE H
            refine iq_r (fun hq => ?_)
            have H := Hd.trans (congrArg some hq)
            refine wk ?_
            cases H
            exact fin_ret (.cons (.tmp rfl) .nil) rfl rfl rfl
          · have H := bf h H
            refine wk ?_
            obtain ⟨x7, hx7, H⟩ := ob H
            refine awr_n rfl (xdT (enc := eTRegistration) hx7 (fun _ => rfl) rfl rfl rfl) ?_
            refine wk ?_
            refine awc_cond rfl (fun h => ?_) (fun h => ?_)
            · have H := bt h H
              refine wk ?_
              obtain ⟨r0, Hd, rfl⟩ := dnE H
              refine iq_r (fun hq => ?_)
              have H := Hd.trans (congrArg some hq)
              refine wk ?_
              cases H
              exact fin_ret (.cons (.tmp rfl) .nil) rfl rfl rfl
            · have H := bf h H
              refine wk ?_
              obtain ⟨x8, hx8, H⟩ := ob H
              refine awr_n rfl (xdT (enc := eTRegistration) hx8 (fun _ => rfl) rfl rfl rfl) ?_
              refine wk ?_
              refine awc_cond rfl (fun h => ?_) (fun h => ?_)
              · have H := bt h H
                refine wk ?_
                obtain ⟨r0, Hd, rfl⟩ := dnE H
                refine iq_r (fun hq => ?_)
                have H := Hd.trans (congrArg some hq)
                refine wk ?_
                cases H
                exact fin_ret (.cons (.tmp rfl) .nil) rfl rfl rfl
              · have H := bf h H
                refine wk ?_
                cases H
                refine iq_n ?_
                exact weak_of ⟨rfl, rfl, rfl, rfl, rfl, rfl, trivial⟩ trivial
  · have H := bf h H
    refine wk ?_
    obtain ⟨r0, Hd, rfl⟩ := dnE H
    refine iq_e (fun hq => ?_)
    have H := Hd.trans (congrArg some hq)
    refine wk ?_
    cases H
    exact fin_ret (.cons (.tmp rfl) .nil) rfl rfl rfl
def lheldRoamingResult (a0 : TRoamingResult) (a1 : Int) : Option Int :=
  Option.bind (lheldRegistrationS a0.Registrations a1) fun r1 => bif ltB r1 0 then (some (-1)) else (some r1)
theorem lheldRoamingResult_c {a0 : TRoamingResult} {a1 : Int} {r : Int} (H : lheldRoamingResult a0 a1 = some r) : Fn Try.prog 78 [.agg (eTRoamingResult a0), aI a1] [.c (.d (.i .i64 r))] := by
  refine fn_in Try.func78 rfl (by kernel_rfl) Try.ntmps78 rfl rfl rfl ?_
  refine wk ?_
  obtain ⟨r1, hr1, H⟩ := ob H
  refine awr_n rfl (ca rfl rfl rfl (lheldRegistrationS_c hr1) trivial rfl rfl rfl rfl) ?_
  refine wk ?_
  refine awc_cond rfl (fun h => ?_) (fun h => ?_)
  · have H := bt h H
    refine wk ?_
    cases H
    exact fin_ret (.cons (.tmp rfl) .nil) rfl rfl rfl
  · have H := bf h H
    refine wk ?_
    cases H
    exact fin_ret (.cons (.tmp rfl) .nil) rfl rfl rfl
end Go.AM
