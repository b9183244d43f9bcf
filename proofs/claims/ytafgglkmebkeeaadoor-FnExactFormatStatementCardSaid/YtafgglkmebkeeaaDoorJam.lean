/-
  Own text: a part of the abstract machine for this seat (Jam). No statement is proved here.
-/
import Derived.Test.YtafgglkmebkeeaaDoorJag
set_option linter.unusedVariables false
namespace Go.AM
open Go.Proofs
attribute [local irreducible] AWN NS AWO AWR AWC DR Weak iterQ
set_option maxRecDepth 100000
set_option maxHeartbeats 4000000
def lszStatementLineS (a0 : List TStatementLine) (a1 : Int) : Option Int :=
  bif ltB (WR (a1 - ((a0.length : Nat) : Int))) 0 then (some (-1)) else (some (WR (a1 - ((a0.length : Nat) : Int))))
theorem lszStatementLineS_c {a0 : List TStatementLine} {a1 : Int} {r : Int} (H : lszStatementLineS a0 a1 = some r) : Fn Tryd.prog 9 [aL (a0.map eTStatementLine), aI a1] [.c (.d (.i .i64 r))] := by
  refine fn_in Tryd.func9 rfl (by kernel_rfl) Tryd.ntmps9 rfl rfl rfl ?_
  refine wk ?_
  refine awc_cond rfl (fun h => ?_) (fun h => ?_)
  · have H := bt h H
    refine wk ?_
    cases H
    exact fin_ret (.cons (.tmp rfl) .nil) rfl rfl rfl
  · have H := bf h H
    refine wk ?_
    cases H
    exact fin_ret (.cons (.tmp rfl) .nil) rfl rfl rfl
def ltoStatementLine (a0 : TStatementLine) : Option TStatementLine :=
  some a0
theorem ltoStatementLine_c {a0 : TStatementLine} {r : TStatementLine} (H : ltoStatementLine a0 = some r) : Fn Tryd.prog 42 [.agg (eTStatementLine a0)] [.agg [.d (.i .i64 r.Payer), .d (.i .i64 r.Payee), .d (.i .i64 r.Amount)]] := by
  refine fn_in Tryd.func42 rfl (by kernel_rfl) Tryd.ntmps42 rfl rfl rfl ?_
  refine wk ?_
  cases H
  exact fin_ret (.cons (.cell rfl rfl rfl) .nil) rfl rfl rfl
def ltoStatementLineS_L1 (a0 : List TStatementLine) : (Int × List TStatementLine) → Option (Step (Int × List TStatementLine) (List TStatementLine))
  | (v1, v2) => bif ltB v1 ((a0.length : Nat) : Int) then (Option.bind (ix a0 v1) fun x7 => Option.bind (ltoStatementLine x7) fun r8 => Option.bind (ix v2 v1) fun x9 => some (.next (WR (v1 + 1), (v2.set (v1).toNat r8)))) else (some (.done v2))
def ltoStatementLineS (a0 : List TStatementLine) : Option (List TStatementLine) :=
  bif mkOk 24 ((a0.length : Nat) : Int) ((a0.length : Nat) : Int) then (Option.bind (iter (ltoStatementLineS_L1 a0) FU (0, (List.replicate (((a0.length : Nat) : Int)).toNat (⟨0, 0, 0⟩ : TStatementLine)))) fun (v6 : List TStatementLine) => some v6) else none
theorem ltoStatementLineS_c {a0 : List TStatementLine} {r : List TStatementLine} (H : ltoStatementLineS a0 = some r) : Fn Tryd.prog 11 [aL (a0.map eTStatementLine)] [.c (.own 96 3 (r.map eTStatementLine) r.length)] := by
  refine fn_in Tryd.func11 rfl (by kernel_rfl) Tryd.ntmps11 rfl rfl rfl ?_
  refine wk ?_
  obtain ⟨h, H⟩ := rq H
  refine awr_n rfl (mkT (enc := eTStatementLine) (za := (⟨0, 0, 0⟩ : TStatementLine)) h (by rfl) rfl rfl rfl rfl) ?_
  refine wk ?_
  obtain ⟨v6, Hj, H⟩ := ob H
  refine awc_jblk ⟨[(3, .v (.c (.w 0 v6.length)))], [(0, .row 96 3 (v6.map eTStatementLine) true true)], 1⟩ ?_ ?_
  · refine wk ?_
    refine awc_iter (fun (q : Int × List TStatementLine) => ⟨[(0, .v (.c (.d false (.l (a0.map eTStatementLine))))), (3, .v (.c (.w 0 q.2.length))), (4, tI q.1)], [(0, .row 96 3 (q.2.map eTStatementLine) true true)], 1⟩) Hj (weak_of ⟨rfl, rfl, wn rfl (by first | rfl | simp), rfl, rfl, rfl, trivial⟩ ⟨rfl, ⟨rfl, rfl⟩, trivial⟩) ?_
    rintro ⟨v1, v2⟩ o H
    try dsimp only
    refine wk ?_
    refine awc_cond rfl (fun h => ?_) (fun h => ?_)
    · have H := bt h H
      refine wk ?_
      obtain ⟨x7, hx7, H⟩ := ob H
      refine awr_n rfl (xdT (enc := eTStatementLine) hx7 (fun _ => rfl) rfl rfl rfl) ?_
      refine wk ?_
      obtain ⟨r8, hr8, H⟩ := ob H
      refine awr_n rfl (ca rfl rfl rfl (ltoStatementLine_c hr8) trivial rfl rfl rfl rfl) ?_
      refine wk ?_
      obtain ⟨x9, hx9, H⟩ := ob H
      refine awr_n rfl (xwT hx9 (by first | rfl | simp) rfl rfl rfl) ?_
      refine wk ?_
      refine awr_step rfl (soT (enc := eTStatementLine) (a' := r8) hx9 rfl rfl rfl rfl rfl rfl rfl) ?_
      refine wk ?_
      cases H
      refine iq_n ?_
      exact weak_of ⟨rfl, rfl, wn rfl (by first | rfl | simp), rfl, rfl, rfl, trivial⟩ ⟨rfl, ⟨rfl, rfl⟩, trivial⟩
    · have H := bf h H
      refine wk ?_
      cases H
      refine iq_e (fun hq => ?_)
      cases hq
      refine wk ?_
      exact weak_of ⟨wn rfl (by first | rfl | simp), rfl, trivial⟩ ⟨rfl, ⟨rfl, rfl⟩, trivial⟩
  refine wk ?_
  cases H
  exact fin_ret (.cons (.tmp rfl) .nil) rfl rfl (by first | rfl | simp)
def leqStatementLine (a0 : TStatementLine) (a1 : TStatementLine) : Option Bool :=
  bif !eqB a0.Payer a1.Payer then (some false) else (bif !eqB a0.Payee a1.Payee then (some false) else (bif !eqB a0.Amount a1.Amount then (some false) else (some true)))
theorem leqStatementLine_c {a0 : TStatementLine} {a1 : TStatementLine} {r : Bool} (H : leqStatementLine a0 a1 = some r) : Fn Tryd.prog 45 [.agg (eTStatementLine a0), .agg (eTStatementLine a1)] [.c (.d (.b r))] := by
  refine fn_in Tryd.func45 rfl (by kernel_rfl) Tryd.ntmps45 rfl rfl rfl ?_
  refine wk ?_
  refine awc_cond rfl (fun h => ?_) (fun h => ?_)
  · have H := bt h H
    refine wk ?_
    cases H
    exact fin_ret (.cons (.tmp rfl) .nil) rfl rfl rfl
  · have H := bf h H
    refine wk ?_
    refine awc_cond rfl (fun h => ?_) (fun h => ?_)
    · have H := bt h H
      refine wk ?_
      cases H
      exact fin_ret (.cons (.tmp rfl) .nil) rfl rfl rfl
    · have H := bf h H
      refine wk ?_
      refine awc_cond rfl (fun h => ?_) (fun h => ?_)
      · have H := bt h H
        refine wk ?_
        cases H
        exact fin_ret (.cons (.tmp rfl) .nil) rfl rfl rfl
      · have H := bf h H
        refine wk ?_
        cases H
        exact fin_ret (.cons (.tmp rfl) .nil) rfl rfl rfl
def leqStatementLineS_L1 (a0 : List TStatementLine) (a1 : List TStatementLine) : Int → Option (Step (Int) (Bool))
  | v1 => bif ltB v1 ((a0.length : Nat) : Int) then (Option.bind (ix a0 v1) fun x2 => Option.bind (ix a1 v1) fun x3 => Option.bind (leqStatementLine x2 x3) fun r4 => bif !r4 then (dn (some false)) else (some (.next (WR (v1 + 1))))) else (dn (some true))
def leqStatementLineS (a0 : List TStatementLine) (a1 : List TStatementLine) : Option Bool :=
  bif !eqB ((a0.length : Nat) : Int) ((a1.length : Nat) : Int) then (some false) else (iter (leqStatementLineS_L1 a0 a1) FU 0)
theorem leqStatementLineS_c {a0 : List TStatementLine} {a1 : List TStatementLine} {r : Bool} (H : leqStatementLineS a0 a1 = some r) : Fn Tryd.prog 13 [aL (a0.map eTStatementLine), aL (a1.map eTStatementLine)] [.c (.d (.b r))] := by
  refine fn_in Tryd.func13 rfl (by kernel_rfl) Tryd.ntmps13 rfl rfl rfl ?_
  refine wkd ?_
  refine awc_cond rfl (fun h => ?_) (fun h => ?_)
  · have H := bt h H
    refine wkd ?_
    cases H
    exact fin_ret (.cons (.tmp rfl) .nil) rfl rfl rfl
  · have H := bf h H
    refine wkd ?_
    refine awc_iter (fun (q : Int) => ⟨[(0, .v (.c (.d false (.l (a0.map eTStatementLine))))), (1, .v (.c (.d false (.l (a1.map eTStatementLine))))), (5, tI q)], [], 0⟩) H (weak_of ⟨rfl, rfl, rfl, rfl, rfl, rfl, trivial⟩ trivial) ?_
    rintro v1 o H
    try dsimp only
    refine wkd ?_
    refine awc_cond rfl (fun h => ?_) (fun h => ?_)
    · have H := bt h H
      refine wkd ?_
      obtain ⟨x2, hx2, H⟩ := ob H
      refine dr_n rfl (xdT (enc := eTStatementLine) hx2 (fun _ => rfl) rfl rfl rfl) ?_
      refine wkd ?_
      obtain ⟨x3, hx3, H⟩ := ob H
      refine dr_n rfl (xdT (enc := eTStatementLine) hx3 (fun _ => rfl) rfl rfl rfl) ?_
      refine wkd ?_
      obtain ⟨r4, hr4, H⟩ := ob H
      refine dr_n rfl (ca rfl rfl rfl (leqStatementLine_c hr4) trivial rfl rfl rfl rfl) ?_
      refine wkd ?_
      refine awc_cond rfl (fun h => ?_) (fun h => ?_)
      · have H := bt h H
        refine wkd ?_
        obtain ⟨r0, Hd, rfl⟩ := dnE H
        refine iq_r (fun hq => ?_)
        have H := Hd.trans (congrArg some hq)
        refine wkd ?_
        cases H
        exact fin_ret (.cons (.tmp rfl) .nil) rfl rfl rfl
      · have H := bf h H
        refine wkd ?_
        cases H
        refine iq_n ?_
        exact weak_of ⟨rfl, rfl, rfl, rfl, rfl, rfl, trivial⟩ trivial
    · have H := bf h H
      refine wkd ?_
      obtain ⟨r0, Hd, rfl⟩ := dnE H
      refine iq_e (fun hq => ?_)
      have H := Hd.trans (congrArg some hq)
      refine wkd ?_
      cases H
      exact fin_ret (.cons (.tmp rfl) .nil) rfl rfl rfl
def lszReservationS (a0 : List TReservation) (a1 : Int) : Option Int :=
  bif ltB (WR (a1 - ((a0.length : Nat) : Int))) 0 then (some (-1)) else (some (WR (a1 - ((a0.length : Nat) : Int))))
theorem lszReservationS_c {a0 : List TReservation} {a1 : Int} {r : Int} (H : lszReservationS a0 a1 = some r) : Fn Tryd.prog 46 [aL (a0.map eTReservation), aI a1] [.c (.d (.i .i64 r))] := by
  refine fn_in Tryd.func46 rfl (by kernel_rfl) Tryd.ntmps46 rfl rfl rfl ?_
  refine wk ?_
  refine awc_cond rfl (fun h => ?_) (fun h => ?_)
  · have H := bt h H
    refine wk ?_
    cases H
    exact fin_ret (.cons (.tmp rfl) .nil) rfl rfl rfl
  · have H := bf h H
    refine wk ?_
    cases H
    exact fin_ret (.cons (.tmp rfl) .nil) rfl rfl rfl
def lszAccount (a0 : TAccount) (a1 : Int) : Option Int :=
  Option.bind (lszReservationS a0.Reservations a1) fun r1 => bif ltB r1 0 then (some (-1)) else (some r1)
theorem lszAccount_c {a0 : TAccount} {a1 : Int} {r : Int} (H : lszAccount a0 a1 = some r) : Fn Tryd.prog 14 [.agg (eTAccount a0), aI a1] [.c (.d (.i .i64 r))] := by
  refine fn_in Tryd.func14 rfl (by kernel_rfl) Tryd.ntmps14 rfl rfl rfl ?_
  refine wk ?_
  obtain ⟨r1, hr1, H⟩ := ob H
  refine awr_n rfl (ca rfl rfl rfl (lszReservationS_c hr1) trivial rfl rfl rfl rfl) ?_
  refine wk ?_
  refine awc_cond rfl (fun h => ?_) (fun h => ?_)
  · have H := bt h H
    refine wk ?_
    cases H
    exact fin_ret (.cons (.tmp rfl) .nil) rfl rfl rfl
  · have H := bf h H
    refine wk ?_
    cases H
    exact fin_ret (.cons (.tmp rfl) .nil) rfl rfl rfl
def ltoReservation (a0 : TReservation) : Option TReservation :=
  some a0
theorem ltoReservation_c {a0 : TReservation} {r : TReservation} (H : ltoReservation a0 = some r) : Fn Tryd.prog 103 [.agg (eTReservation a0)] [.agg [.d (.i .i64 r.SessionID), .d (.i .i64 r.Amount)]] := by
  refine fn_in Tryd.func103 rfl (by kernel_rfl) Tryd.ntmps103 rfl rfl rfl ?_
  refine wk ?_
  cases H
  exact fin_ret (.cons (.cell rfl rfl rfl) .nil) rfl rfl rfl
def ltoReservationS_L1 (a0 : List TReservation) : (Int × List TReservation) → Option (Step (Int × List TReservation) (List TReservation))
  | (v1, v2) => bif ltB v1 ((a0.length : Nat) : Int) then (Option.bind (ix a0 v1) fun x7 => Option.bind (ltoReservation x7) fun r8 => Option.bind (ix v2 v1) fun x9 => some (.next (WR (v1 + 1), (v2.set (v1).toNat r8)))) else (some (.done v2))
def ltoReservationS (a0 : List TReservation) : Option (List TReservation) :=
  bif mkOk 16 ((a0.length : Nat) : Int) ((a0.length : Nat) : Int) then (Option.bind (iter (ltoReservationS_L1 a0) FU (0, (List.replicate (((a0.length : Nat) : Int)).toNat (⟨0, 0⟩ : TReservation)))) fun (v6 : List TReservation) => some v6) else none
theorem ltoReservationS_c {a0 : List TReservation} {r : List TReservation} (H : ltoReservationS a0 = some r) : Fn Tryd.prog 48 [aL (a0.map eTReservation)] [.c (.own 193 2 (r.map eTReservation) r.length)] := by
  refine fn_in Tryd.func48 rfl (by kernel_rfl) Tryd.ntmps48 rfl rfl rfl ?_
  refine wk ?_
  obtain ⟨h, H⟩ := rq H
  refine awr_n rfl (mkT (enc := eTReservation) (za := (⟨0, 0⟩ : TReservation)) h (by rfl) rfl rfl rfl rfl) ?_
  refine wk ?_
  obtain ⟨v6, Hj, H⟩ := ob H
  refine awc_jblk ⟨[(3, .v (.c (.w 0 v6.length)))], [(0, .row 193 2 (v6.map eTReservation) true true)], 1⟩ ?_ ?_
  · refine wk ?_
    refine awc_iter (fun (q : Int × List TReservation) => ⟨[(0, .v (.c (.d false (.l (a0.map eTReservation))))), (3, .v (.c (.w 0 q.2.length))), (4, tI q.1)], [(0, .row 193 2 (q.2.map eTReservation) true true)], 1⟩) Hj (weak_of ⟨rfl, rfl, wn rfl (by first | rfl | simp), rfl, rfl, rfl, trivial⟩ ⟨rfl, ⟨rfl, rfl⟩, trivial⟩) ?_
    rintro ⟨v1, v2⟩ o H
    try dsimp only
    refine wk ?_
    refine awc_cond rfl (fun h => ?_) (fun h => ?_)
    · have H := bt h H
      refine wk ?_
      obtain ⟨x7, hx7, H⟩ := ob H
      refine awr_n rfl (xdT (enc := eTReservation) hx7 (fun _ => rfl) rfl rfl rfl) ?_
      refine wk ?_
      obtain ⟨r8, hr8, H⟩ := ob H
      refine awr_n rfl (ca rfl rfl rfl (ltoReservation_c hr8) trivial rfl rfl rfl rfl) ?_
      refine wk ?_
      obtain ⟨x9, hx9, H⟩ := ob H
      refine awr_n rfl (xwT hx9 (by first | rfl | simp) rfl rfl rfl) ?_
      refine wk ?_
      refine awr_step rfl (soT (enc := eTReservation) (a' := r8) hx9 rfl rfl rfl rfl rfl rfl rfl) ?_
      refine wk ?_
      cases H
      refine iq_n ?_
      exact weak_of ⟨rfl, rfl, wn rfl (by first | rfl | simp), rfl, rfl, rfl, trivial⟩ ⟨rfl, ⟨rfl, rfl⟩, trivial⟩
    · have H := bf h H
      refine wk ?_
      cases H
      refine iq_e (fun hq => ?_)
      cases hq
      refine wk ?_
      exact weak_of ⟨wn rfl (by first | rfl | simp), rfl, trivial⟩ ⟨rfl, ⟨rfl, rfl⟩, trivial⟩
  refine wk ?_
  cases H
  exact fin_ret (.cons (.tmp rfl) .nil) rfl rfl (by first | rfl | simp)
def ltoAccount (a0 : TAccount) : Option TAccount :=
  Option.bind (ltoReservationS a0.Reservations) fun r1 => some (⟨a0.Total, a0.Available, a0.Spent, r1⟩ : TAccount)
theorem ltoAccount_c {a0 : TAccount} {r : TAccount} (H : ltoAccount a0 = some r) : Fn Tryd.prog 16 [.agg (eTAccount a0)] [.agg [.d (.i .i64 r.Total), .d (.i .i64 r.Available), .d (.i .i64 r.Spent), .own 193 2 (r.Reservations.map eTReservation) r.Reservations.length]] := by
  refine fn_in Tryd.func16 rfl (by kernel_rfl) Tryd.ntmps16 rfl rfl rfl ?_
  refine wk ?_
  obtain ⟨r1, hr1, H⟩ := ob H
  refine awr_n rfl (ca rfl rfl rfl (ltoReservationS_c hr1) trivial rfl rfl rfl rfl) ?_
  refine wk ?_
  cases H
  exact fin_ret (.cons (.cell rfl rfl rfl) .nil) rfl rfl (by first | rfl | simp)
def leqReservation (a0 : TReservation) (a1 : TReservation) : Option Bool :=
  bif !eqB a0.SessionID a1.SessionID then (some false) else (bif !eqB a0.Amount a1.Amount then (some false) else (some true))
theorem leqReservation_c {a0 : TReservation} {a1 : TReservation} {r : Bool} (H : leqReservation a0 a1 = some r) : Fn Tryd.prog 104 [.agg (eTReservation a0), .agg (eTReservation a1)] [.c (.d (.b r))] := by
  refine fn_in Tryd.func104 rfl (by kernel_rfl) Tryd.ntmps104 rfl rfl rfl ?_
  refine wk ?_
  refine awc_cond rfl (fun h => ?_) (fun h => ?_)
  · have H := bt h H
    refine wk ?_
    cases H
    exact fin_ret (.cons (.tmp rfl) .nil) rfl rfl rfl
  · have H := bf h H
    refine wk ?_
    refine awc_cond rfl (fun h => ?_) (fun h => ?_)
    · have H := bt h H
      refine wk ?_
      cases H
      exact fin_ret (.cons (.tmp rfl) .nil) rfl rfl rfl
    · have H := bf h H
      refine wk ?_
      cases H
      exact fin_ret (.cons (.tmp rfl) .nil) rfl rfl rfl
def leqReservationS_L1 (a0 : List TReservation) (a1 : List TReservation) : Int → Option (Step (Int) (Bool))
  | v1 => bif ltB v1 ((a0.length : Nat) : Int) then (Option.bind (ix a0 v1) fun x2 => Option.bind (ix a1 v1) fun x3 => Option.bind (leqReservation x2 x3) fun r4 => bif !r4 then (dn (some false)) else (some (.next (WR (v1 + 1))))) else (dn (some true))
def leqReservationS (a0 : List TReservation) (a1 : List TReservation) : Option Bool :=
  bif !eqB ((a0.length : Nat) : Int) ((a1.length : Nat) : Int) then (some false) else (iter (leqReservationS_L1 a0 a1) FU 0)
theorem leqReservationS_c {a0 : List TReservation} {a1 : List TReservation} {r : Bool} (H : leqReservationS a0 a1 = some r) : Fn Tryd.prog 51 [aL (a0.map eTReservation), aL (a1.map eTReservation)] [.c (.d (.b r))] := by
  refine fn_in Tryd.func51 rfl (by kernel_rfl) Tryd.ntmps51 rfl rfl rfl ?_
  refine wkd ?_
  refine awc_cond rfl (fun h => ?_) (fun h => ?_)
  · have H := bt h H
    refine wkd ?_
    cases H
    exact fin_ret (.cons (.tmp rfl) .nil) rfl rfl rfl
  · have H := bf h H
    refine wkd ?_
    refine awc_iter (fun (q : Int) => ⟨[(0, .v (.c (.d false (.l (a0.map eTReservation))))), (1, .v (.c (.d false (.l (a1.map eTReservation))))), (5, tI q)], [], 0⟩) H (weak_of ⟨rfl, rfl, rfl, rfl, rfl, rfl, trivial⟩ trivial) ?_
    rintro v1 o H
    try dsimp only
    refine wkd ?_
    refine awc_cond rfl (fun h => ?_) (fun h => ?_)
    · have H := bt h H
      refine wkd ?_
      obtain ⟨x2, hx2, H⟩ := ob H
      refine dr_n rfl (xdT (enc := eTReservation) hx2 (fun _ => rfl) rfl rfl rfl) ?_
      refine wkd ?_
      obtain ⟨x3, hx3, H⟩ := ob H
      refine dr_n rfl (xdT (enc := eTReservation) hx3 (fun _ => rfl) rfl rfl rfl) ?_
      refine wkd ?_
      obtain ⟨r4, hr4, H⟩ := ob H
      refine dr_n rfl (ca rfl rfl rfl (leqReservation_c hr4) trivial rfl rfl rfl rfl) ?_
      refine wkd ?_
      refine awc_cond rfl (fun h => ?_) (fun h => ?_)
      · have H := bt h H
        refine wkd ?_
        obtain ⟨r0, Hd, rfl⟩ := dnE H
        refine iq_r (fun hq => ?_)
        have H := Hd.trans (congrArg some hq)
        refine wkd ?_
        cases H
        exact fin_ret (.cons (.tmp rfl) .nil) rfl rfl rfl
      · have H := bf h H
        refine wkd ?_
        cases H
        refine iq_n ?_
        exact weak_of ⟨rfl, rfl, rfl, rfl, rfl, rfl, trivial⟩ trivial
    · have H := bf h H
      refine wkd ?_
      obtain ⟨r0, Hd, rfl⟩ := dnE H
      refine iq_e (fun hq => ?_)
      have H := Hd.trans (congrArg some hq)
      refine wkd ?_
      cases H
      exact fin_ret (.cons (.tmp rfl) .nil) rfl rfl rfl
def leqAccount (a0 : TAccount) (a1 : TAccount) : Option Bool :=
  bif !eqB a0.Total a1.Total then (some false) else (bif !eqB a0.Available a1.Available then (some false) else (bif !eqB a0.Spent a1.Spent then (some false) else (Option.bind (leqReservationS a0.Reservations a1.Reservations) fun r1 => bif !r1 then (some false) else (some true))))
theorem leqAccount_c {a0 : TAccount} {a1 : TAccount} {r : Bool} (H : leqAccount a0 a1 = some r) : Fn Tryd.prog 18 [.agg (eTAccount a0), .agg (eTAccount a1)] [.c (.d (.b r))] := by
  refine fn_in Tryd.func18 rfl (by kernel_rfl) Tryd.ntmps18 rfl rfl rfl ?_
  refine wk ?_
  refine awc_cond rfl (fun h => ?_) (fun h => ?_)
  · have H := bt h H
    refine wk ?_
    cases H
    exact fin_ret (.cons (.tmp rfl) .nil) rfl rfl rfl
  · have H := bf h H
    refine wk ?_
    refine awc_cond rfl (fun h => ?_) (fun h => ?_)
    · have H := bt h H
      refine wk ?_
      cases H
      exact fin_ret (.cons (.tmp rfl) .nil) rfl rfl rfl
    · have H := bf h H
      refine wk ?_
      refine awc_cond rfl (fun h => ?_) (fun h => ?_)
      · have H := bt h H
        refine wk ?_
        cases H
        exact fin_ret (.cons (.tmp rfl) .nil) rfl rfl rfl
      · have H := bf h H
        refine wk ?_
        obtain ⟨r1, hr1, H⟩ := ob H
        refine awr_n rfl (ca rfl rfl rfl (leqReservationS_c hr1) trivial rfl rfl rfl rfl) ?_
        refine wk ?_
        refine awc_cond rfl (fun h => ?_) (fun h => ?_)
        · have H := bt h H
          refine wk ?_
          cases H
          exact fin_ret (.cons (.tmp rfl) .nil) rfl rfl rfl
        · have H := bf h H
          refine wk ?_
          cases H
          exact fin_ret (.cons (.tmp rfl) .nil) rfl rfl rfl
def lszByteS (a0 : List Int) (a1 : Int) : Option Int :=
  bif ltB (WR (a1 - ((a0.length : Nat) : Int))) 0 then (some (-1)) else (some (WR (a1 - ((a0.length : Nat) : Int))))
theorem lszByteS_c {a0 : List Int} {a1 : Int} {r : Int} (H : lszByteS a0 a1 = some r) : Fn Tryd.prog 138 [aL (a0.map eU8), aI a1] [.c (.d (.i .i64 r))] := by
  refine fn_in Tryd.func138 rfl (by kernel_rfl) Tryd.ntmps138 rfl rfl rfl ?_
  refine wk ?_
  refine awc_cond rfl (fun h => ?_) (fun h => ?_)
  · have H := bt h H
    refine wk ?_
    cases H
    exact fin_ret (.cons (.tmp rfl) .nil) rfl rfl rfl
  · have H := bf h H
    refine wk ?_
    cases H
    exact fin_ret (.cons (.tmp rfl) .nil) rfl rfl rfl
def lszSecuredMessage (a0 : TSecuredMessage) (a1 : Int) : Option Int :=
  Option.bind (lszByteS a0.Data a1) fun r1 => bif ltB r1 0 then (some (-1)) else (some r1)
theorem lszSecuredMessage_c {a0 : TSecuredMessage} {a1 : Int} {r : Int} (H : lszSecuredMessage a0 a1 = some r) : Fn Tryd.prog 105 [.agg (eTSecuredMessage a0), aI a1] [.c (.d (.i .i64 r))] := by
  refine fn_in Tryd.func105 rfl (by kernel_rfl) Tryd.ntmps105 rfl rfl rfl ?_
  refine wk ?_
  obtain ⟨r1, hr1, H⟩ := ob H
  refine awr_n rfl (ca rfl rfl rfl (lszByteS_c hr1) trivial rfl rfl rfl rfl) ?_
  refine wk ?_
  refine awc_cond rfl (fun h => ?_) (fun h => ?_)
  · have H := bt h H
    refine wk ?_
    cases H
    exact fin_ret (.cons (.tmp rfl) .nil) rfl rfl rfl
  · have H := bf h H
    refine wk ?_
    cases H
    exact fin_ret (.cons (.tmp rfl) .nil) rfl rfl rfl
def lszRadioPacket (a0 : TRadioPacket) (a1 : Int) : Option Int :=
  Option.bind (lszSecuredMessage a0.Message a1) fun r1 => bif ltB r1 0 then (some (-1)) else (some r1)
theorem lszRadioPacket_c {a0 : TRadioPacket} {a1 : Int} {r : Int} (H : lszRadioPacket a0 a1 = some r) : Fn Tryd.prog 52 [.agg (eTRadioPacket a0), aI a1] [.c (.d (.i .i64 r))] := by
  refine fn_in Tryd.func52 rfl (by kernel_rfl) Tryd.ntmps52 rfl rfl rfl ?_
  refine wk ?_
  obtain ⟨r1, hr1, H⟩ := ob H
  refine awr_n rfl (ca rfl rfl rfl (lszSecuredMessage_c hr1) trivial rfl rfl rfl rfl) ?_
  refine wk ?_
  refine awc_cond rfl (fun h => ?_) (fun h => ?_)
  · have H := bt h H
    refine wk ?_
    cases H
    exact fin_ret (.cons (.tmp rfl) .nil) rfl rfl rfl
  · have H := bf h H
    refine wk ?_
    cases H
    exact fin_ret (.cons (.tmp rfl) .nil) rfl rfl rfl
def lszFlight (a0 : TFlight) (a1 : Int) : Option Int :=
  Option.bind (lszRadioPacket a0.Radio a1) fun r1 => bif ltB r1 0 then (some (-1)) else (some r1)
theorem lszFlight_c {a0 : TFlight} {a1 : Int} {r : Int} (H : lszFlight a0 a1 = some r) : Fn Tryd.prog 19 [.agg (eTFlight a0), aI a1] [.c (.d (.i .i64 r))] := by
  refine fn_in Tryd.func19 rfl (by kernel_rfl) Tryd.ntmps19 rfl rfl rfl ?_
  refine wk ?_
  obtain ⟨r1, hr1, H⟩ := ob H
  refine awr_n rfl (ca rfl rfl rfl (lszRadioPacket_c hr1) trivial rfl rfl rfl rfl) ?_
  refine wk ?_
  refine awc_cond rfl (fun h => ?_) (fun h => ?_)
  · have H := bt h H
    refine wk ?_
    cases H
    exact fin_ret (.cons (.tmp rfl) .nil) rfl rfl rfl
  · have H := bf h H
    refine wk ?_
    cases H
    exact fin_ret (.cons (.tmp rfl) .nil) rfl rfl rfl
def ltoAuthVector (a0 : TAuthVector) : Option TAuthVector :=
  some a0
theorem ltoAuthVector_c {a0 : TAuthVector} {r : TAuthVector} (H : ltoAuthVector a0 = some r) : Fn Tryd.prog 85 [.agg (eTAuthVector a0)] [.agg [.d (.i .i64 r.Rand), .d (.i .i64 r.Autn), .d (.i .i64 r.MAC), .d (.i .i64 r.Res), .d (.i .i64 r.Key)]] := by
  refine fn_in Tryd.func85 rfl (by kernel_rfl) Tryd.ntmps85 rfl rfl rfl ?_
  refine wk ?_
  cases H
  exact fin_ret (.cons (.cell rfl rfl rfl) .nil) rfl rfl rfl
def ltoSignal (a0 : TSignal) : Option TSignal :=
  Option.bind (ltoAuthVector a0.Vector) fun r1 => some (⟨a0.Kind, a0.Cell, a0.Generation, a0.Epoch, a0.Number, r1, a0.MAC⟩ : TSignal)
theorem ltoSignal_c {a0 : TSignal} {r : TSignal} (H : ltoSignal a0 = some r) : Fn Tryd.prog 54 [.agg (eTSignal a0)] [.agg [.d (.i .i64 r.Kind), .d (.i .i64 r.Cell), .d (.i .i64 r.Generation), .d (.i .i64 r.Epoch), .d (.i .i64 r.Number), .d (.i .i64 r.Vector.Rand), .d (.i .i64 r.Vector.Autn), .d (.i .i64 r.Vector.MAC), .d (.i .i64 r.Vector.Res), .d (.i .i64 r.Vector.Key), .d (.i .i64 r.MAC)]] := by
  refine fn_in Tryd.func54 rfl (by kernel_rfl) Tryd.ntmps54 rfl rfl rfl ?_
  refine wk ?_
  obtain ⟨r1, hr1, H⟩ := ob H
  refine awr_n rfl (ca rfl rfl rfl (ltoAuthVector_c hr1) trivial rfl rfl rfl rfl) ?_
  refine wk ?_
  cases H
  exact fin_ret (.cons (.cell rfl rfl rfl) .nil) rfl rfl rfl
def ltoByteS_L1 (a0 : List Int) : (Int × List Int) → Option (Step (Int × List Int) (List Int))
  | (v1, v2) => bif ltB v1 ((a0.length : Nat) : Int) then (Option.bind (ix a0 v1) fun x6 => Option.bind (ix v2 v1) fun x7 => some (.next (WR (v1 + 1), (v2.set (v1).toNat x6)))) else (some (.done v2))
def ltoByteS (a0 : List Int) : Option (List Int) :=
  bif mkOk 1 ((a0.length : Nat) : Int) ((a0.length : Nat) : Int) then (Option.bind (iter (ltoByteS_L1 a0) FU (0, (List.replicate (((a0.length : Nat) : Int)).toNat 0))) fun (v5 : List Int) => some v5) else none
theorem ltoByteS_c {a0 : List Int} {r : List Int} (H : ltoByteS a0 = some r) : Fn Tryd.prog 139 [aL (a0.map eU8)] [.c (.own 5 1 (r.map eU8) r.length)] := by
  refine fn_in Tryd.func139 rfl (by kernel_rfl) Tryd.ntmps139 rfl rfl rfl ?_
  refine wk ?_
  obtain ⟨h, H⟩ := rq H
  refine awr_n rfl (mkT (enc := eU8) (za := 0) h (by rfl) rfl rfl rfl rfl) ?_
  refine wk ?_
  obtain ⟨v5, Hj, H⟩ := ob H
  refine awc_jblk ⟨[(3, .v (.c (.w 0 v5.length)))], [(0, .row 5 1 (v5.map eU8) true true)], 1⟩ ?_ ?_
  · refine wk ?_
    refine awc_iter (fun (q : Int × List Int) => ⟨[(0, .v (.c (.d false (.l (a0.map eU8))))), (3, .v (.c (.w 0 q.2.length))), (4, tI q.1)], [(0, .row 5 1 (q.2.map eU8) true true)], 1⟩) Hj (weak_of ⟨rfl, rfl, wn rfl (by first | rfl | simp), rfl, rfl, rfl, trivial⟩ ⟨rfl, ⟨rfl, rfl⟩, trivial⟩) ?_
    rintro ⟨v1, v2⟩ o H
    try dsimp only
    refine wk ?_
    refine awc_cond rfl (fun h => ?_) (fun h => ?_)
    · have H := bt h H
      refine wk ?_
      obtain ⟨x6, hx6, H⟩ := ob H
      refine awr_n rfl (xdT (enc := eU8) hx6 (fun _ => rfl) rfl rfl rfl) ?_
      refine wk ?_
      obtain ⟨x7, hx7, H⟩ := ob H
      refine awr_n rfl (xwT hx7 (by first | rfl | simp) rfl rfl rfl) ?_
      refine wk ?_
      refine awr_step rfl (soT (enc := eU8) (a' := x6) hx7 rfl rfl rfl rfl rfl rfl rfl) ?_
      refine wk ?_
      cases H
      refine iq_n ?_
      exact weak_of ⟨rfl, rfl, wn rfl (by first | rfl | simp), rfl, rfl, rfl, trivial⟩ ⟨rfl, ⟨rfl, rfl⟩, trivial⟩
    · have H := bf h H
      refine wk ?_
      cases H
      refine iq_e (fun hq => ?_)
      cases hq
      refine wk ?_
      exact weak_of ⟨wn rfl (by first | rfl | simp), rfl, trivial⟩ ⟨rfl, ⟨rfl, rfl⟩, trivial⟩
  refine wk ?_
  cases H
  exact fin_ret (.cons (.tmp rfl) .nil) rfl rfl (by first | rfl | simp)
def ltoSecuredMessage (a0 : TSecuredMessage) : Option TSecuredMessage :=
  Option.bind (ltoByteS a0.Data) fun r1 => some (⟨a0.Direction, a0.Count, r1, a0.MAC⟩ : TSecuredMessage)
theorem ltoSecuredMessage_c {a0 : TSecuredMessage} {r : TSecuredMessage} (H : ltoSecuredMessage a0 = some r) : Fn Tryd.prog 106 [.agg (eTSecuredMessage a0)] [.agg [.d (.i .i64 r.Direction), .d (.i .i64 r.Count), .own 5 1 (r.Data.map eU8) r.Data.length, .d (.i .i64 r.MAC)]] := by
  refine fn_in Tryd.func106 rfl (by kernel_rfl) Tryd.ntmps106 rfl rfl rfl ?_
  refine wk ?_
  obtain ⟨r1, hr1, H⟩ := ob H
  refine awr_n rfl (ca rfl rfl rfl (ltoByteS_c hr1) trivial rfl rfl rfl rfl) ?_
  refine wk ?_
  cases H
  exact fin_ret (.cons (.cell rfl rfl rfl) .nil) rfl rfl (by first | rfl | simp)
def ltoRadioPacket (a0 : TRadioPacket) : Option TRadioPacket :=
  Option.bind (ltoSecuredMessage a0.Message) fun r1 => some (⟨a0.Generation, a0.Epoch, r1⟩ : TRadioPacket)
theorem ltoRadioPacket_c {a0 : TRadioPacket} {r : TRadioPacket} (H : ltoRadioPacket a0 = some r) : Fn Tryd.prog 55 [.agg (eTRadioPacket a0)] [.agg [.d (.i .i64 r.Generation), .d (.i .i64 r.Epoch), .d (.i .i64 r.Message.Direction), .d (.i .i64 r.Message.Count), .own 5 1 (r.Message.Data.map eU8) r.Message.Data.length, .d (.i .i64 r.Message.MAC)]] := by
  refine fn_in Tryd.func55 rfl (by kernel_rfl) Tryd.ntmps55 rfl rfl rfl ?_
  refine wk ?_
  obtain ⟨r1, hr1, H⟩ := ob H
  refine awr_n rfl (ca rfl rfl rfl (ltoSecuredMessage_c hr1) trivial rfl rfl rfl rfl) ?_
  refine wk ?_
  cases H
  exact fin_ret (.cons (.cell rfl rfl rfl) .nil) rfl rfl (by first | rfl | simp)
def ltoFlight (a0 : TFlight) : Option TFlight :=
  Option.bind (ltoSignal a0.Signal) fun r1 => Option.bind (ltoRadioPacket a0.Radio) fun r2 => some (⟨a0.Device, a0.Uplink, a0.IsRadio, a0.Cell, r1, r2⟩ : TFlight)
theorem ltoFlight_c {a0 : TFlight} {r : TFlight} (H : ltoFlight a0 = some r) : Fn Tryd.prog 21 [.agg (eTFlight a0)] [.agg [.d (.i .i64 r.Device), .d (.b r.Uplink), .d (.b r.IsRadio), .d (.i .i64 r.Cell), .d (.i .i64 r.Signal.Kind), .d (.i .i64 r.Signal.Cell), .d (.i .i64 r.Signal.Generation), .d (.i .i64 r.Signal.Epoch), .d (.i .i64 r.Signal.Number), .d (.i .i64 r.Signal.Vector.Rand), .d (.i .i64 r.Signal.Vector.Autn), .d (.i .i64 r.Signal.Vector.MAC), .d (.i .i64 r.Signal.Vector.Res), .d (.i .i64 r.Signal.Vector.Key), .d (.i .i64 r.Signal.MAC), .d (.i .i64 r.Radio.Generation), .d (.i .i64 r.Radio.Epoch), .d (.i .i64 r.Radio.Message.Direction), .d (.i .i64 r.Radio.Message.Count), .own 5 1 (r.Radio.Message.Data.map eU8) r.Radio.Message.Data.length, .d (.i .i64 r.Radio.Message.MAC)]] := by
  refine fn_in Tryd.func21 rfl (by kernel_rfl) Tryd.ntmps21 rfl rfl rfl ?_
  refine wk ?_
  obtain ⟨r1, hr1, H⟩ := ob H
  refine awr_n rfl (ca rfl rfl rfl (ltoSignal_c hr1) trivial rfl rfl rfl rfl) ?_
  refine wk ?_
  obtain ⟨r2, hr2, H⟩ := ob H
  refine awr_n rfl (ca rfl rfl rfl (ltoRadioPacket_c hr2) trivial rfl rfl rfl rfl) ?_
  refine wk ?_
  cases H
  exact fin_ret (.cons (.cell rfl rfl rfl) .nil) rfl rfl (by first | rfl | simp)
def leqAuthVector (a0 : TAuthVector) (a1 : TAuthVector) : Option Bool :=
  bif !eqB a0.Rand a1.Rand then (some false) else (bif !eqB a0.Autn a1.Autn then (some false) else (bif !eqB a0.MAC a1.MAC then (some false) else (bif !eqB a0.Res a1.Res then (some false) else (bif !eqB a0.Key a1.Key then (some false) else (some true)))))
theorem leqAuthVector_c {a0 : TAuthVector} {a1 : TAuthVector} {r : Bool} (H : leqAuthVector a0 a1 = some r) : Fn Tryd.prog 94 [.agg (eTAuthVector a0), .agg (eTAuthVector a1)] [.c (.d (.b r))] := by
  refine fn_in Tryd.func94 rfl (by kernel_rfl) Tryd.ntmps94 rfl rfl rfl ?_
  refine wk ?_
  refine awc_cond rfl (fun h => ?_) (fun h => ?_)
  · have H := bt h H
    refine wk ?_
    cases H
    exact fin_ret (.cons (.tmp rfl) .nil) rfl rfl rfl
  · have H := bf h H
    refine wk ?_
    refine awc_cond rfl (fun h => ?_) (fun h => ?_)
    · have H := bt h H
      refine wk ?_
      cases H
      exact fin_ret (.cons (.tmp rfl) .nil) rfl rfl rfl
    · have H := bf h H
      refine wk ?_
      refine awc_cond rfl (fun h => ?_) (fun h => ?_)
      · have H := bt h H
        refine wk ?_
        cases H
        exact fin_ret (.cons (.tmp rfl) .nil) rfl rfl rfl
      · have H := bf h H
        refine wk ?_
        refine awc_cond rfl (fun h => ?_) (fun h => ?_)
        · have H := bt h H
          refine wk ?_
          cases H
          exact fin_ret (.cons (.tmp rfl) .nil) rfl rfl rfl
        · have H := bf h H
          refine wk ?_
          refine awc_cond rfl (fun h => ?_) (fun h => ?_)
          · have H := bt h H
            refine wk ?_
            cases H
            exact fin_ret (.cons (.tmp rfl) .nil) rfl rfl rfl
          · have H := bf h H
            refine wk ?_
            cases H
            exact fin_ret (.cons (.tmp rfl) .nil) rfl rfl rfl
def leqSignal (a0 : TSignal) (a1 : TSignal) : Option Bool :=
  bif !eqB a0.Kind a1.Kind then (some false) else (bif !eqB a0.Cell a1.Cell then (some false) else (bif !eqB a0.Generation a1.Generation then (some false) else (bif !eqB a0.Epoch a1.Epoch then (some false) else (bif !eqB a0.Number a1.Number then (some false) else (Option.bind (leqAuthVector a0.Vector a1.Vector) fun r1 => bif !r1 then (some false) else (bif !eqB a0.MAC a1.MAC then (some false) else (some true)))))))
theorem leqSignal_c {a0 : TSignal} {a1 : TSignal} {r : Bool} (H : leqSignal a0 a1 = some r) : Fn Tryd.prog 57 [.agg (eTSignal a0), .agg (eTSignal a1)] [.c (.d (.b r))] := by
  refine fn_in Tryd.func57 rfl (by kernel_rfl) Tryd.ntmps57 rfl rfl rfl ?_
  refine wk ?_
  refine awc_cond rfl (fun h => ?_) (fun h => ?_)
  · have H := bt h H
    refine wk ?_
    cases H
    exact fin_ret (.cons (.tmp rfl) .nil) rfl rfl rfl
  · have H := bf h H
    refine wk ?_
    refine awc_cond rfl (fun h => ?_) (fun h => ?_)
    · have H := bt h H
      refine wk ?_
      cases H
      exact fin_ret (.cons (.tmp rfl) .nil) rfl rfl rfl
    · have H := bf h H
      refine wk ?_
      refine awc_cond rfl (fun h => ?_) (fun h => ?_)
      · have H := bt h H
        refine wk ?_
        cases H
        exact fin_ret (.cons (.tmp rfl) .nil) rfl rfl rfl
      · have H := bf h H
        refine wk ?_
        refine awc_cond rfl (fun h => ?_) (fun h => ?_)
        · have H := bt h H
          refine wk ?_
          cases H
          exact fin_ret (.cons (.tmp rfl) .nil) rfl rfl rfl
        · have H := bf h H
          refine wk ?_
          refine awc_cond rfl (fun h => ?_) (fun h => ?_)
          · have H := bt h H
            refine wk ?_
            cases H
            exact fin_ret (.cons (.tmp rfl) .nil) rfl rfl rfl
          · have H := bf h H
            refine wk ?_
            obtain ⟨r1, hr1, H⟩ := ob H
            refine awr_n rfl (ca rfl rfl rfl (leqAuthVector_c hr1) trivial rfl rfl rfl rfl) ?_
            refine wk ?_
            refine awc_cond rfl (fun h => ?_) (fun h => ?_)
            · have H := bt h H
              refine wk ?_
              cases H
              exact fin_ret (.cons (.tmp rfl) .nil) rfl rfl rfl
            · have H := bf h H
              refine wk ?_
              refine awc_cond rfl (fun h => ?_) (fun h => ?_)
              · have H := bt h H
                refine wk ?_
                cases H
                exact fin_ret (.cons (.tmp rfl) .nil) rfl rfl rfl
              · have H := bf h H
                refine wk ?_
                cases H
                exact fin_ret (.cons (.tmp rfl) .nil) rfl rfl rfl
def leqByteS_L1 (a0 : List Int) (a1 : List Int) : Int → Option (Step (Int) (Bool))
  | v1 => bif ltB v1 ((a0.length : Nat) : Int) then (Option.bind (ix a0 v1) fun x2 => Option.bind (ix a1 v1) fun x3 => bif !eqB x2 x3 then (dn (some false)) else (some (.next (WR (v1 + 1))))) else (dn (some true))
def leqByteS (a0 : List Int) (a1 : List Int) : Option Bool :=
  bif !eqB ((a0.length : Nat) : Int) ((a1.length : Nat) : Int) then (some false) else (iter (leqByteS_L1 a0 a1) FU 0)
theorem leqByteS_c {a0 : List Int} {a1 : List Int} {r : Bool} (H : leqByteS a0 a1 = some r) : Fn Tryd.prog 140 [aL (a0.map eU8), aL (a1.map eU8)] [.c (.d (.b r))] := by
  refine fn_in Tryd.func140 rfl (by kernel_rfl) Tryd.ntmps140 rfl rfl rfl ?_
  refine wkd ?_
  refine awc_cond rfl (fun h => ?_) (fun h => ?_)
  · have H := bt h H
    refine wkd ?_
    cases H
    exact fin_ret (.cons (.tmp rfl) .nil) rfl rfl rfl
  · have H := bf h H
    refine wkd ?_
    refine awc_iter (fun (q : Int) => ⟨[(0, .v (.c (.d false (.l (a0.map eU8))))), (1, .v (.c (.d false (.l (a1.map eU8))))), (5, tI q)], [], 0⟩) H (weak_of ⟨rfl, rfl, rfl, rfl, rfl, rfl, trivial⟩ trivial) ?_
    rintro v1 o H
    try dsimp only
    refine wkd ?_
    refine awc_cond rfl (fun h => ?_) (fun h => ?_)
    · have H := bt h H
      refine wkd ?_
      obtain ⟨x2, hx2, H⟩ := ob H
      refine dr_n rfl (xdT (enc := eU8) hx2 (fun _ => rfl) rfl rfl rfl) ?_
      refine wkd ?_
      obtain ⟨x3, hx3, H⟩ := ob H
      refine dr_n rfl (xdT (enc := eU8) hx3 (fun _ => rfl) rfl rfl rfl) ?_
      refine wkd ?_
      refine awc_cond rfl (fun h => ?_) (fun h => ?_)
      · have H := bt h H
        refine wkd ?_
        obtain ⟨r0, Hd, rfl⟩ := dnE H
        refine iq_r (fun hq => ?_)
        have H := Hd.trans (congrArg some hq)
        refine wkd ?_
        cases H
        exact fin_ret (.cons (.tmp rfl) .nil) rfl rfl rfl
      · have H := bf h H
        refine wkd ?_
        cases H
        refine iq_n ?_
        exact weak_of ⟨rfl, rfl, rfl, rfl, rfl, rfl, trivial⟩ trivial
    · have H := bf h H
      refine wkd ?_
      obtain ⟨r0, Hd, rfl⟩ := dnE H
      refine iq_e (fun hq => ?_)
      have H := Hd.trans (congrArg some hq)
      refine wkd ?_
      cases H
      exact fin_ret (.cons (.tmp rfl) .nil) rfl rfl rfl
def leqSecuredMessage (a0 : TSecuredMessage) (a1 : TSecuredMessage) : Option Bool :=
  bif !eqB a0.Direction a1.Direction then (some false) else (bif !eqB a0.Count a1.Count then (some false) else (Option.bind (leqByteS a0.Data a1.Data) fun r1 => bif !r1 then (some false) else (bif !eqB a0.MAC a1.MAC then (some false) else (some true))))
theorem leqSecuredMessage_c {a0 : TSecuredMessage} {a1 : TSecuredMessage} {r : Bool} (H : leqSecuredMessage a0 a1 = some r) : Fn Tryd.prog 108 [.agg (eTSecuredMessage a0), .agg (eTSecuredMessage a1)] [.c (.d (.b r))] := by
  refine fn_in Tryd.func108 rfl (by kernel_rfl) Tryd.ntmps108 rfl rfl rfl ?_
  refine wk ?_
  refine awc_cond rfl (fun h => ?_) (fun h => ?_)
  · have H := bt h H
    refine wk ?_
    cases H
    exact fin_ret (.cons (.tmp rfl) .nil) rfl rfl rfl
  · have H := bf h H
    refine wk ?_
    refine awc_cond rfl (fun h => ?_) (fun h => ?_)
    · have H := bt h H
      refine wk ?_
      cases H
      exact fin_ret (.cons (.tmp rfl) .nil) rfl rfl rfl
    · have H := bf h H
      refine wk ?_
      obtain ⟨r1, hr1, H⟩ := ob H
      refine awr_n rfl (ca rfl rfl rfl (leqByteS_c hr1) trivial rfl rfl rfl rfl) ?_
      refine wk ?_
      refine awc_cond rfl (fun h => ?_) (fun h => ?_)
      · have H := bt h H
        refine wk ?_
        cases H
        exact fin_ret (.cons (.tmp rfl) .nil) rfl rfl rfl
      · have H := bf h H
        refine wk ?_
        refine awc_cond rfl (fun h => ?_) (fun h => ?_)
        · have H := bt h H
          refine wk ?_
          cases H
          exact fin_ret (.cons (.tmp rfl) .nil) rfl rfl rfl
        · have H := bf h H
          refine wk ?_
          cases H
          exact fin_ret (.cons (.tmp rfl) .nil) rfl rfl rfl
def leqRadioPacket (a0 : TRadioPacket) (a1 : TRadioPacket) : Option Bool :=
  bif !eqB a0.Generation a1.Generation then (some false) else (bif !eqB a0.Epoch a1.Epoch then (some false) else (Option.bind (leqSecuredMessage a0.Message a1.Message) fun r1 => bif !r1 then (some false) else (some true)))
theorem leqRadioPacket_c {a0 : TRadioPacket} {a1 : TRadioPacket} {r : Bool} (H : leqRadioPacket a0 a1 = some r) : Fn Tryd.prog 58 [.agg (eTRadioPacket a0), .agg (eTRadioPacket a1)] [.c (.d (.b r))] := by
  refine fn_in Tryd.func58 rfl (by kernel_rfl) Tryd.ntmps58 rfl rfl rfl ?_
  refine wk ?_
  refine awc_cond rfl (fun h => ?_) (fun h => ?_)
  · have H := bt h H
    refine wk ?_
    cases H
    exact fin_ret (.cons (.tmp rfl) .nil) rfl rfl rfl
  · have H := bf h H
    refine wk ?_
    refine awc_cond rfl (fun h => ?_) (fun h => ?_)
    · have H := bt h H
      refine wk ?_
      cases H
      exact fin_ret (.cons (.tmp rfl) .nil) rfl rfl rfl
    · have H := bf h H
      refine wk ?_
      obtain ⟨r1, hr1, H⟩ := ob H
      refine awr_n rfl (ca rfl rfl rfl (leqSecuredMessage_c hr1) trivial rfl rfl rfl rfl) ?_
      refine wk ?_
      refine awc_cond rfl (fun h => ?_) (fun h => ?_)
      · have H := bt h H
        refine wk ?_
        cases H
        exact fin_ret (.cons (.tmp rfl) .nil) rfl rfl rfl
      · have H := bf h H
        refine wk ?_
        cases H
        exact fin_ret (.cons (.tmp rfl) .nil) rfl rfl rfl
def leqFlight (a0 : TFlight) (a1 : TFlight) : Option Bool :=
  bif !eqB a0.Device a1.Device then (some false) else (bif !(booB a0.Uplink a1.Uplink) then (some false) else (bif !(booB a0.IsRadio a1.IsRadio) then (some false) else (bif !eqB a0.Cell a1.Cell then (some false) else (Option.bind (leqSignal a0.Signal a1.Signal) fun r1 => bif !r1 then (some false) else (Option.bind (leqRadioPacket a0.Radio a1.Radio) fun r2 => bif !r2 then (some false) else (some true))))))
theorem leqFlight_c {a0 : TFlight} {a1 : TFlight} {r : Bool} (H : leqFlight a0 a1 = some r) : Fn Tryd.prog 23 [.agg (eTFlight a0), .agg (eTFlight a1)] [.c (.d (.b r))] := by
  refine fn_in Tryd.func23 rfl (by kernel_rfl) Tryd.ntmps23 rfl rfl rfl ?_
  refine wk ?_
  refine awc_cond rfl (fun h => ?_) (fun h => ?_)
  · have H := bt h H
    refine wk ?_
    cases H
    exact fin_ret (.cons (.tmp rfl) .nil) rfl rfl rfl
  · have H := bf h H
    refine wk ?_
    refine awc_cond rfl (fun h => ?_) (fun h => ?_)
    · have H := bt h H
      refine wk ?_
      cases H
      exact fin_ret (.cons (.tmp rfl) .nil) rfl rfl rfl
    · have H := bf h H
      refine wk ?_
      refine awc_cond rfl (fun h => ?_) (fun h => ?_)
      · have H := bt h H
        refine wk ?_
        cases H
        exact fin_ret (.cons (.tmp rfl) .nil) rfl rfl rfl
      · have H := bf h H
        refine wk ?_
        refine awc_cond rfl (fun h => ?_) (fun h => ?_)
        · have H := bt h H
          refine wk ?_
          cases H
          exact fin_ret (.cons (.tmp rfl) .nil) rfl rfl rfl
        · have H := bf h H
          refine wk ?_
          obtain ⟨r1, hr1, H⟩ := ob H
          refine awr_n rfl (ca rfl rfl rfl (leqSignal_c hr1) trivial rfl rfl rfl rfl) ?_
          refine wk ?_
          refine awc_cond rfl (fun h => ?_) (fun h => ?_)
          · have H := bt h H
            refine wk ?_
            cases H
            exact fin_ret (.cons (.tmp rfl) .nil) rfl rfl rfl
          · have H := bf h H
            refine wk ?_
            obtain ⟨r2, hr2, H⟩ := ob H
            refine awr_n rfl (ca rfl rfl rfl (leqRadioPacket_c hr2) trivial rfl rfl rfl rfl) ?_
            refine wk ?_
            refine awc_cond rfl (fun h => ?_) (fun h => ?_)
            · have H := bt h H
              refine wk ?_
              cases H
              exact fin_ret (.cons (.tmp rfl) .nil) rfl rfl rfl
            · have H := bf h H
              refine wk ?_
              cases H
              exact fin_ret (.cons (.tmp rfl) .nil) rfl rfl rfl
def lszPayload (a0 : TPayload) (a1 : Int) : Option Int :=
  Option.bind (lszByteS a0.Data a1) fun r1 => bif ltB r1 0 then (some (-1)) else (some r1)
theorem lszPayload_c {a0 : TPayload} {a1 : Int} {r : Int} (H : lszPayload a0 a1 = some r) : Fn Tryd.prog 130 [.agg (eTPayload a0), aI a1] [.c (.d (.i .i64 r))] := by
  refine fn_in Tryd.func130 rfl (by kernel_rfl) Tryd.ntmps130 rfl rfl rfl ?_
  refine wk ?_
  obtain ⟨r1, hr1, H⟩ := ob H
  refine awr_n rfl (ca rfl rfl rfl (lszByteS_c hr1) trivial rfl rfl rfl rfl) ?_
  refine wk ?_
  refine awc_cond rfl (fun h => ?_) (fun h => ?_)
  · have H := bt h H
    refine wk ?_
    cases H
    exact fin_ret (.cons (.tmp rfl) .nil) rfl rfl rfl
  · have H := bf h H
    refine wk ?_
    cases H
    exact fin_ret (.cons (.tmp rfl) .nil) rfl rfl rfl
def lszPayloadS_L1 (a0 : List TPayload) : (Int × Int) → Option (Step (Int × Int) (Int))
  | (v1, v2) => bif ltB v2 ((a0.length : Nat) : Int) then (Option.bind (ix a0 v2) fun x3 => Option.bind (lszPayload x3 v1) fun r4 => bif ltB r4 0 then (dn (some (-1))) else (some (.next (r4, WR (v2 + 1))))) else (dn (some v1))
def lszPayloadS (a0 : List TPayload) (a1 : Int) : Option Int :=
  bif ltB (WR (a1 - ((a0.length : Nat) : Int))) 0 then (some (-1)) else (iter (lszPayloadS_L1 a0) FU (WR (a1 - ((a0.length : Nat) : Int)), 0))
theorem lszPayloadS_c {a0 : List TPayload} {a1 : Int} {r : Int} (H : lszPayloadS a0 a1 = some r) : Fn Tryd.prog 80 [aL (a0.map eTPayload), aI a1] [.c (.d (.i .i64 r))] := by
  refine fn_in Tryd.func80 rfl (by kernel_rfl) Tryd.ntmps80 rfl rfl rfl ?_
  refine wk ?_
  refine awc_cond rfl (fun h => ?_) (fun h => ?_)
  · have H := bt h H
    refine wk ?_
    cases H
    exact fin_ret (.cons (.tmp rfl) .nil) rfl rfl rfl
  · have H := bf h H
    refine wk ?_
    refine awc_iter (fun (q : Int × Int) => ⟨[(0, .v (.c (.d false (.l (a0.map eTPayload))))), (1, tI q.1), (5, tI q.2)], [], 0⟩) H (weak_of ⟨rfl, rfl, rfl, rfl, rfl, rfl, trivial⟩ trivial) ?_
    rintro ⟨v1, v2⟩ o H
    try dsimp only
    refine wk ?_
    refine awc_cond rfl (fun h => ?_) (fun h => ?_)
    · have H := bt h H
      refine wk ?_
      obtain ⟨x3, hx3, H⟩ := ob H
      refine awr_n rfl (xdT (enc := eTPayload) hx3 (fun _ => rfl) rfl rfl rfl) ?_
      refine wk ?_
      obtain ⟨r4, hr4, H⟩ := ob H
      refine awr_n rfl (ca rfl rfl rfl (lszPayload_c hr4) trivial rfl rfl rfl rfl) ?_
      refine wk ?_
      refine awc_cond rfl (fun h => ?_) (fun h => ?_)
      · have H := bt h H
        refine wk ?_
        obtain ⟨r0, Hd, rfl⟩ := dnE H
        refine iq_r (fun hq => ?_)
        have H := Hd.trans (congrArg some hq)
        refine wk ?_
        cases H
        exact fin_ret (.cons (.tmp rfl) .nil) rfl rfl rfl
      · have H := bf h H
        refine wk ?_
        cases H
        refine iq_n ?_
        exact weak_of ⟨rfl, rfl, rfl, rfl, rfl, rfl, trivial⟩ trivial
    · have H := bf h H
      refine wk ?_
      obtain ⟨r0, Hd, rfl⟩ := dnE H
      refine iq_e (fun hq => ?_)
      have H := Hd.trans (congrArg some hq)
      refine wk ?_
      cases H
      exact fin_ret (.cons (.tmp rfl) .nil) rfl rfl rfl
def lszNumberedPacket (a0 : TNumberedPacket) (a1 : Int) : Option Int :=
  Option.bind (lszByteS a0.Data a1) fun r1 => bif ltB r1 0 then (some (-1)) else (some r1)
theorem lszNumberedPacket_c {a0 : TNumberedPacket} {a1 : Int} {r : Int} (H : lszNumberedPacket a0 a1 = some r) : Fn Tryd.prog 141 [.agg (eTNumberedPacket a0), aI a1] [.c (.d (.i .i64 r))] := by
  refine fn_in Tryd.func141 rfl (by kernel_rfl) Tryd.ntmps141 rfl rfl rfl ?_
  refine wk ?_
  obtain ⟨r1, hr1, H⟩ := ob H
  refine awr_n rfl (ca rfl rfl rfl (lszByteS_c hr1) trivial rfl rfl rfl rfl) ?_
  refine wk ?_
  refine awc_cond rfl (fun h => ?_) (fun h => ?_)
  · have H := bt h H
    refine wk ?_
    cases H
    exact fin_ret (.cons (.tmp rfl) .nil) rfl rfl rfl
  · have H := bf h H
    refine wk ?_
    cases H
    exact fin_ret (.cons (.tmp rfl) .nil) rfl rfl rfl
def lszNumberedPacketS_L1 (a0 : List TNumberedPacket) : (Int × Int) → Option (Step (Int × Int) (Int))
  | (v1, v2) => bif ltB v2 ((a0.length : Nat) : Int) then (Option.bind (ix a0 v2) fun x3 => Option.bind (lszNumberedPacket x3 v1) fun r4 => bif ltB r4 0 then (dn (some (-1))) else (some (.next (r4, WR (v2 + 1))))) else (dn (some v1))
def lszNumberedPacketS (a0 : List TNumberedPacket) (a1 : Int) : Option Int :=
  bif ltB (WR (a1 - ((a0.length : Nat) : Int))) 0 then (some (-1)) else (iter (lszNumberedPacketS_L1 a0) FU (WR (a1 - ((a0.length : Nat) : Int)), 0))
theorem lszNumberedPacketS_c {a0 : List TNumberedPacket} {a1 : Int} {r : Int} (H : lszNumberedPacketS a0 a1 = some r) : Fn Tryd.prog 109 [aL (a0.map eTNumberedPacket), aI a1] [.c (.d (.i .i64 r))] := by
  refine fn_in Tryd.func109 rfl (by kernel_rfl) Tryd.ntmps109 rfl rfl rfl ?_
  refine wk ?_
  refine awc_cond rfl (fun h => ?_) (fun h => ?_)
  · have H := bt h H
    refine wk ?_
    cases H
    exact fin_ret (.cons (.tmp rfl) .nil) rfl rfl rfl
  · have H := bf h H
    refine wk ?_
    refine awc_iter (fun (q : Int × Int) => ⟨[(0, .v (.c (.d false (.l (a0.map eTNumberedPacket))))), (1, tI q.1), (5, tI q.2)], [], 0⟩) H (weak_of ⟨rfl, rfl, rfl, rfl, rfl, rfl, trivial⟩ trivial) ?_
    rintro ⟨v1, v2⟩ o H
    try dsimp only
    refine wk ?_
    refine awc_cond rfl (fun h => ?_) (fun h => ?_)
    · have H := bt h H
      refine wk ?_
      obtain ⟨x3, hx3, H⟩ := ob H
      refine awr_n rfl (xdT (enc := eTNumberedPacket) hx3 (fun _ => rfl) rfl rfl rfl) ?_
      refine wk ?_
      obtain ⟨r4, hr4, H⟩ := ob H
      refine awr_n rfl (ca rfl rfl rfl (lszNumberedPacket_c hr4) trivial rfl rfl rfl rfl) ?_
      refine wk ?_
      refine awc_cond rfl (fun h => ?_) (fun h => ?_)
      · have H := bt h H
        refine wk ?_
        obtain ⟨r0, Hd, rfl⟩ := dnE H
        refine iq_r (fun hq => ?_)
        have H := Hd.trans (congrArg some hq)
        refine wk ?_
        cases H
        exact fin_ret (.cons (.tmp rfl) .nil) rfl rfl rfl
      · have H := bf h H
        refine wk ?_
        cases H
        refine iq_n ?_
        exact weak_of ⟨rfl, rfl, rfl, rfl, rfl, rfl, trivial⟩ trivial
    · have H := bf h H
      refine wk ?_
      obtain ⟨r0, Hd, rfl⟩ := dnE H
      refine iq_e (fun hq => ?_)
      have H := Hd.trans (congrArg some hq)
      refine wk ?_
      cases H
      exact fin_ret (.cons (.tmp rfl) .nil) rfl rfl rfl
def lszReceiveWindow (a0 : TReceiveWindow) (a1 : Int) : Option Int :=
  Option.bind (lszNumberedPacketS a0.Pending a1) fun r1 => bif ltB r1 0 then (some (-1)) else (Option.bind (lszPayloadS a0.Delivered r1) fun r2 => bif ltB r2 0 then (some (-1)) else (some r2))
theorem lszReceiveWindow_c {a0 : TReceiveWindow} {a1 : Int} {r : Int} (H : lszReceiveWindow a0 a1 = some r) : Fn Tryd.prog 59 [.agg (eTReceiveWindow a0), aI a1] [.c (.d (.i .i64 r))] := by
  refine fn_in Tryd.func59 rfl (by kernel_rfl) Tryd.ntmps59 rfl rfl rfl ?_
  refine wk ?_
  obtain ⟨r1, hr1, H⟩ := ob H
  refine awr_n rfl (ca rfl rfl rfl (lszNumberedPacketS_c hr1) trivial rfl rfl rfl rfl) ?_
  refine wk ?_
  refine awc_cond rfl (fun h => ?_) (fun h => ?_)
  · have H := bt h H
    refine wk ?_
    cases H
    exact fin_ret (.cons (.tmp rfl) .nil) rfl rfl rfl
  · have H := bf h H
    refine wk ?_
    obtain ⟨r2, hr2, H⟩ := ob H
    refine awr_n rfl (ca rfl rfl rfl (lszPayloadS_c hr2) trivial rfl rfl rfl rfl) ?_
    refine wk ?_
    refine awc_cond rfl (fun h => ?_) (fun h => ?_)
    · have H := bt h H
      refine wk ?_
      cases H
      exact fin_ret (.cons (.tmp rfl) .nil) rfl rfl rfl
    · have H := bf h H
      refine wk ?_
      cases H
      exact fin_ret (.cons (.tmp rfl) .nil) rfl rfl rfl
def lszDevice (a0 : TDevice) (a1 : Int) : Option Int :=
  Option.bind (lszReceiveWindow a0.Receiver a1) fun r1 => bif ltB r1 0 then (some (-1)) else (some r1)
theorem lszDevice_c {a0 : TDevice} {a1 : Int} {r : Int} (H : lszDevice a0 a1 = some r) : Fn Tryd.prog 24 [.agg (eTDevice a0), aI a1] [.c (.d (.i .i64 r))] := by
  refine fn_in Tryd.func24 rfl (by kernel_rfl) Tryd.ntmps24 rfl rfl rfl ?_
  refine wk ?_
  obtain ⟨r1, hr1, H⟩ := ob H
  refine awr_n rfl (ca rfl rfl rfl (lszReceiveWindow_c hr1) trivial rfl rfl rfl rfl) ?_
  refine wk ?_
  refine awc_cond rfl (fun h => ?_) (fun h => ?_)
  · have H := bt h H
    refine wk ?_
    cases H
    exact fin_ret (.cons (.tmp rfl) .nil) rfl rfl rfl
  · have H := bf h H
    refine wk ?_
    cases H
    exact fin_ret (.cons (.tmp rfl) .nil) rfl rfl rfl
def ltoSubscriberID (a0 : TSubscriberID) : Option TSubscriberID :=
  some a0
theorem ltoSubscriberID_c {a0 : TSubscriberID} {r : TSubscriberID} (H : ltoSubscriberID a0 = some r) : Fn Tryd.prog 111 [.agg (eTSubscriberID a0)] [.agg [.d (.i .i64 r.Network), .d (.i .i64 r.Number)]] := by
  refine fn_in Tryd.func111 rfl (by kernel_rfl) Tryd.ntmps111 rfl rfl rfl ?_
  refine wk ?_
  cases H
  exact fin_ret (.cons (.cell rfl rfl rfl) .nil) rfl rfl rfl
def ltoUSIM (a0 : TUSIM) : Option TUSIM :=
  Option.bind (ltoSubscriberID a0.ID) fun r1 => some (⟨r1, a0.Key, a0.LastSeq⟩ : TUSIM)
theorem ltoUSIM_c {a0 : TUSIM} {r : TUSIM} (H : ltoUSIM a0 = some r) : Fn Tryd.prog 62 [.agg (eTUSIM a0)] [.agg [.d (.i .i64 r.ID.Network), .d (.i .i64 r.ID.Number), .d (.i .i64 r.Key), .d (.i .i64 r.LastSeq)]] := by
  refine fn_in Tryd.func62 rfl (by kernel_rfl) Tryd.ntmps62 rfl rfl rfl ?_
  refine wk ?_
  obtain ⟨r1, hr1, H⟩ := ob H
  refine awr_n rfl (ca rfl rfl rfl (ltoSubscriberID_c hr1) trivial rfl rfl rfl rfl) ?_
  refine wk ?_
  cases H
  exact fin_ret (.cons (.cell rfl rfl rfl) .nil) rfl rfl rfl
def ltoPayload (a0 : TPayload) : Option TPayload :=
  Option.bind (ltoByteS a0.Data) fun r1 => some (⟨r1⟩ : TPayload)
theorem ltoPayload_c {a0 : TPayload} {r : TPayload} (H : ltoPayload a0 = some r) : Fn Tryd.prog 132 [.agg (eTPayload a0)] [.agg [.own 5 1 (r.Data.map eU8) r.Data.length]] := by
  refine fn_in Tryd.func132 rfl (by kernel_rfl) Tryd.ntmps132 rfl rfl rfl ?_
  refine wk ?_
  obtain ⟨r1, hr1, H⟩ := ob H
  refine awr_n rfl (ca rfl rfl rfl (ltoByteS_c hr1) trivial rfl rfl rfl rfl) ?_
  refine wk ?_
  cases H
  exact fin_ret (.cons (.cell rfl rfl rfl) .nil) rfl rfl (by first | rfl | simp)
def ltoPayloadS_L1 (a0 : List TPayload) : (Int × List TPayload) → Option (Step (Int × List TPayload) (List TPayload))
  | (v1, v2) => bif ltB v1 ((a0.length : Nat) : Int) then (Option.bind (ix a0 v1) fun x7 => Option.bind (ltoPayload x7) fun r8 => Option.bind (ix v2 v1) fun x9 => some (.next (WR (v1 + 1), (v2.set (v1).toNat r8)))) else (some (.done v2))
def ltoPayloadS (a0 : List TPayload) : Option (List TPayload) :=
  bif mkOk 24 ((a0.length : Nat) : Int) ((a0.length : Nat) : Int) then (Option.bind (iter (ltoPayloadS_L1 a0) FU (0, (List.replicate (((a0.length : Nat) : Int)).toNat (⟨[]⟩ : TPayload)))) fun (v6 : List TPayload) => some v6) else none
theorem ltoPayloadS_c {a0 : List TPayload} {r : List TPayload} (H : ltoPayloadS a0 = some r) : Fn Tryd.prog 87 [aL (a0.map eTPayload)] [.c (.own 221 1 (r.map eTPayload) r.length)] := by
  refine fn_in Tryd.func87 rfl (by kernel_rfl) Tryd.ntmps87 rfl rfl rfl ?_
  refine wk ?_
  obtain ⟨h, H⟩ := rq H
  refine awr_n rfl (mkT (enc := eTPayload) (za := (⟨[]⟩ : TPayload)) h (by rfl) rfl rfl rfl rfl) ?_
  refine wk ?_
  obtain ⟨v6, Hj, H⟩ := ob H
  refine awc_jblk ⟨[(3, .v (.c (.w 0 v6.length)))], [(0, .row 221 1 (v6.map eTPayload) true true)], 1⟩ ?_ ?_
  · refine wk ?_
    refine awc_iter (fun (q : Int × List TPayload) => ⟨[(0, .v (.c (.d false (.l (a0.map eTPayload))))), (3, .v (.c (.w 0 q.2.length))), (4, tI q.1)], [(0, .row 221 1 (q.2.map eTPayload) true true)], 1⟩) Hj (weak_of ⟨rfl, rfl, wn rfl (by first | rfl | simp), rfl, rfl, rfl, trivial⟩ ⟨rfl, ⟨rfl, rfl⟩, trivial⟩) ?_
    rintro ⟨v1, v2⟩ o H
    try dsimp only
    refine wk ?_
    refine awc_cond rfl (fun h => ?_) (fun h => ?_)
    · have H := bt h H
      refine wk ?_
      obtain ⟨x7, hx7, H⟩ := ob H
      refine awr_n rfl (xdT (enc := eTPayload) hx7 (fun _ => rfl) rfl rfl rfl) ?_
      refine wk ?_
      obtain ⟨r8, hr8, H⟩ := ob H
      refine awr_n rfl (ca rfl rfl rfl (ltoPayload_c hr8) trivial rfl rfl rfl rfl) ?_
      refine wk ?_
      obtain ⟨x9, hx9, H⟩ := ob H
      refine awr_n rfl (xwT hx9 (by first | rfl | simp) rfl rfl rfl) ?_
      refine wk ?_
      refine awr_weak (weak_frz (o := 1) rfl rfl) ?_
      refine awr_weak (weak_cast (k := 20) rfl rfl ⟨by first | rfl | simp, trivial⟩) ?_
      refine awr_step rfl (soT (enc := eTPayload) (a' := r8) hx9 rfl rfl rfl rfl rfl rfl rfl) ?_
      refine wk ?_
      cases H
      refine iq_n ?_
      exact weak_of ⟨rfl, rfl, wn rfl (by first | rfl | simp), rfl, rfl, rfl, trivial⟩ ⟨rfl, ⟨rfl, rfl⟩, trivial⟩
    · have H := bf h H
      refine wk ?_
      cases H
      refine iq_e (fun hq => ?_)
      cases hq
      refine wk ?_
      exact weak_of ⟨wn rfl (by first | rfl | simp), rfl, trivial⟩ ⟨rfl, ⟨rfl, rfl⟩, trivial⟩
  refine wk ?_
  cases H
  exact fin_ret (.cons (.tmp rfl) .nil) rfl rfl (by first | rfl | simp)
def ltoNumberedPacket (a0 : TNumberedPacket) : Option TNumberedPacket :=
  Option.bind (ltoByteS a0.Data) fun r1 => some (⟨a0.Seq, r1⟩ : TNumberedPacket)
theorem ltoNumberedPacket_c {a0 : TNumberedPacket} {r : TNumberedPacket} (H : ltoNumberedPacket a0 = some r) : Fn Tryd.prog 142 [.agg (eTNumberedPacket a0)] [.agg [.d (.i .i64 r.Seq), .own 5 1 (r.Data.map eU8) r.Data.length]] := by
  refine fn_in Tryd.func142 rfl (by kernel_rfl) Tryd.ntmps142 rfl rfl rfl ?_
  refine wk ?_
  obtain ⟨r1, hr1, H⟩ := ob H
  refine awr_n rfl (ca rfl rfl rfl (ltoByteS_c hr1) trivial rfl rfl rfl rfl) ?_
  refine wk ?_
  cases H
  exact fin_ret (.cons (.cell rfl rfl rfl) .nil) rfl rfl (by first | rfl | simp)
def ltoNumberedPacketS_L1 (a0 : List TNumberedPacket) : (Int × List TNumberedPacket) → Option (Step (Int × List TNumberedPacket) (List TNumberedPacket))
  | (v1, v2) => bif ltB v1 ((a0.length : Nat) : Int) then (Option.bind (ix a0 v1) fun x7 => Option.bind (ltoNumberedPacket x7) fun r8 => Option.bind (ix v2 v1) fun x9 => some (.next (WR (v1 + 1), (v2.set (v1).toNat r8)))) else (some (.done v2))
def ltoNumberedPacketS (a0 : List TNumberedPacket) : Option (List TNumberedPacket) :=
  bif mkOk 32 ((a0.length : Nat) : Int) ((a0.length : Nat) : Int) then (Option.bind (iter (ltoNumberedPacketS_L1 a0) FU (0, (List.replicate (((a0.length : Nat) : Int)).toNat (⟨0, []⟩ : TNumberedPacket)))) fun (v6 : List TNumberedPacket) => some v6) else none
theorem ltoNumberedPacketS_c {a0 : List TNumberedPacket} {r : List TNumberedPacket} (H : ltoNumberedPacketS a0 = some r) : Fn Tryd.prog 112 [aL (a0.map eTNumberedPacket)] [.c (.own 232 2 (r.map eTNumberedPacket) r.length)] := by
  refine fn_in Tryd.func112 rfl (by kernel_rfl) Tryd.ntmps112 rfl rfl rfl ?_
  refine wk ?_
  obtain ⟨h, H⟩ := rq H
  refine awr_n rfl (mkT (enc := eTNumberedPacket) (za := (⟨0, []⟩ : TNumberedPacket)) h (by rfl) rfl rfl rfl rfl) ?_
  refine wk ?_
  obtain ⟨v6, Hj, H⟩ := ob H
  refine awc_jblk ⟨[(3, .v (.c (.w 0 v6.length)))], [(0, .row 232 2 (v6.map eTNumberedPacket) true true)], 1⟩ ?_ ?_
  · refine wk ?_
    refine awc_iter (fun (q : Int × List TNumberedPacket) => ⟨[(0, .v (.c (.d false (.l (a0.map eTNumberedPacket))))), (3, .v (.c (.w 0 q.2.length))), (4, tI q.1)], [(0, .row 232 2 (q.2.map eTNumberedPacket) true true)], 1⟩) Hj (weak_of ⟨rfl, rfl, wn rfl (by first | rfl | simp), rfl, rfl, rfl, trivial⟩ ⟨rfl, ⟨rfl, rfl⟩, trivial⟩) ?_
    rintro ⟨v1, v2⟩ o H
    try dsimp only
    refine wk ?_
    refine awc_cond rfl (fun h => ?_) (fun h => ?_)
    · have H := bt h H
      refine wk ?_
      obtain ⟨x7, hx7, H⟩ := ob H
      refine awr_n rfl (xdT (enc := eTNumberedPacket) hx7 (fun _ => rfl) rfl rfl rfl) ?_
      refine wk ?_
      obtain ⟨r8, hr8, H⟩ := ob H
      refine awr_n rfl (ca rfl rfl rfl (ltoNumberedPacket_c hr8) trivial rfl rfl rfl rfl) ?_
      refine wk ?_
      obtain ⟨x9, hx9, H⟩ := ob H
      refine awr_n rfl (xwT hx9 (by first | rfl | simp) rfl rfl rfl) ?_
      refine wk ?_
      refine awr_weak (weak_frz (o := 1) rfl rfl) ?_
      refine awr_weak (weak_cast (k := 20) rfl rfl ⟨by first | rfl | simp, trivial⟩) ?_
      refine awr_step rfl (soT (enc := eTNumberedPacket) (a' := r8) hx9 rfl rfl rfl rfl rfl rfl rfl) ?_
      refine wk ?_
      cases H
      refine iq_n ?_
      exact weak_of ⟨rfl, rfl, wn rfl (by first | rfl | simp), rfl, rfl, rfl, trivial⟩ ⟨rfl, ⟨rfl, rfl⟩, trivial⟩
    · have H := bf h H
      refine wk ?_
      cases H
      refine iq_e (fun hq => ?_)
      cases hq
      refine wk ?_
      exact weak_of ⟨wn rfl (by first | rfl | simp), rfl, trivial⟩ ⟨rfl, ⟨rfl, rfl⟩, trivial⟩
  refine wk ?_
  cases H
  exact fin_ret (.cons (.tmp rfl) .nil) rfl rfl (by first | rfl | simp)
def ltoReceiveWindow (a0 : TReceiveWindow) : Option TReceiveWindow :=
  Option.bind (ltoNumberedPacketS a0.Pending) fun r1 => Option.bind (ltoPayloadS a0.Delivered) fun r2 => some (⟨a0.Next, r1, r2⟩ : TReceiveWindow)
theorem ltoReceiveWindow_c {a0 : TReceiveWindow} {r : TReceiveWindow} (H : ltoReceiveWindow a0 = some r) : Fn Tryd.prog 63 [.agg (eTReceiveWindow a0)] [.agg [.d (.i .i64 r.Next), .own 232 2 (r.Pending.map eTNumberedPacket) r.Pending.length, .own 221 1 (r.Delivered.map eTPayload) r.Delivered.length]] := by
  refine fn_in Tryd.func63 rfl (by kernel_rfl) Tryd.ntmps63 rfl rfl rfl ?_
  refine wk ?_
  obtain ⟨r1, hr1, H⟩ := ob H
  refine awr_n rfl (ca rfl rfl rfl (ltoNumberedPacketS_c hr1) trivial rfl rfl rfl rfl) ?_
  refine wk ?_
  obtain ⟨r2, hr2, H⟩ := ob H
  refine awr_n rfl (ca rfl rfl rfl (ltoPayloadS_c hr2) trivial rfl rfl rfl rfl) ?_
  refine wk ?_
  cases H
  exact fin_ret (.cons (.cell rfl rfl rfl) .nil) rfl rfl (by first | rfl | simp)
def ltoDevice (a0 : TDevice) : Option TDevice :=
  Option.bind (ltoUSIM a0.Card) fun r1 => Option.bind (ltoReceiveWindow a0.Receiver) fun r2 => some (⟨r1, a0.State, a0.Cell, a0.Generation, a0.RootKey, a0.Epoch, a0.PathConfirmed, a0.Wait, r2⟩ : TDevice)
theorem ltoDevice_c {a0 : TDevice} {r : TDevice} (H : ltoDevice a0 = some r) : Fn Tryd.prog 26 [.agg (eTDevice a0)] [.agg [.d (.i .i64 r.Card.ID.Network), .d (.i .i64 r.Card.ID.Number), .d (.i .i64 r.Card.Key), .d (.i .i64 r.Card.LastSeq), .d (.i .i64 r.State), .d (.i .i64 r.Cell), .d (.i .i64 r.Generation), .d (.i .i64 r.RootKey), .d (.i .i64 r.Epoch), .d (.b r.PathConfirmed), .d (.i .i64 r.Wait), .d (.i .i64 r.Receiver.Next), .own 232 2 (r.Receiver.Pending.map eTNumberedPacket) r.Receiver.Pending.length, .own 221 1 (r.Receiver.Delivered.map eTPayload) r.Receiver.Delivered.length]] := by
  refine fn_in Tryd.func26 rfl (by kernel_rfl) Tryd.ntmps26 rfl rfl rfl ?_
  refine wk ?_
  obtain ⟨r1, hr1, H⟩ := ob H
  refine awr_n rfl (ca rfl rfl rfl (ltoUSIM_c hr1) trivial rfl rfl rfl rfl) ?_
  refine wk ?_
  obtain ⟨r2, hr2, H⟩ := ob H
  refine awr_n rfl (ca rfl rfl rfl (ltoReceiveWindow_c hr2) trivial rfl rfl rfl rfl) ?_
  refine wk ?_
  cases H
  exact fin_ret (.cons (.cell rfl rfl rfl) .nil) rfl rfl (by first | rfl | simp)
def leqSubscriberID (a0 : TSubscriberID) (a1 : TSubscriberID) : Option Bool :=
  bif !eqB a0.Network a1.Network then (some false) else (bif !eqB a0.Number a1.Number then (some false) else (some true))
theorem leqSubscriberID_c {a0 : TSubscriberID} {a1 : TSubscriberID} {r : Bool} (H : leqSubscriberID a0 a1 = some r) : Fn Tryd.prog 114 [.agg (eTSubscriberID a0), .agg (eTSubscriberID a1)] [.c (.d (.b r))] := by
  refine fn_in Tryd.func114 rfl (by kernel_rfl) Tryd.ntmps114 rfl rfl rfl ?_
  refine wk ?_
  refine awc_cond rfl (fun h => ?_) (fun h => ?_)
  · have H := bt h H
    refine wk ?_
    cases H
    exact fin_ret (.cons (.tmp rfl) .nil) rfl rfl rfl
  · have H := bf h H
    refine wk ?_
    refine awc_cond rfl (fun h => ?_) (fun h => ?_)
    · have H := bt h H
      refine wk ?_
      cases H
      exact fin_ret (.cons (.tmp rfl) .nil) rfl rfl rfl
    · have H := bf h H
      refine wk ?_
      cases H
      exact fin_ret (.cons (.tmp rfl) .nil) rfl rfl rfl
def leqUSIM (a0 : TUSIM) (a1 : TUSIM) : Option Bool :=
  Option.bind (leqSubscriberID a0.ID a1.ID) fun r1 => bif !r1 then (some false) else (bif !eqB a0.Key a1.Key then (some false) else (bif !eqB a0.LastSeq a1.LastSeq then (some false) else (some true)))
theorem leqUSIM_c {a0 : TUSIM} {a1 : TUSIM} {r : Bool} (H : leqUSIM a0 a1 = some r) : Fn Tryd.prog 66 [.agg (eTUSIM a0), .agg (eTUSIM a1)] [.c (.d (.b r))] := by
  refine fn_in Tryd.func66 rfl (by kernel_rfl) Tryd.ntmps66 rfl rfl rfl ?_
  refine wk ?_
  obtain ⟨r1, hr1, H⟩ := ob H
  refine awr_n rfl (ca rfl rfl rfl (leqSubscriberID_c hr1) trivial rfl rfl rfl rfl) ?_
  refine wk ?_
  refine awc_cond rfl (fun h => ?_) (fun h => ?_)
  · have H := bt h H
    refine wk ?_
    cases H
    exact fin_ret (.cons (.tmp rfl) .nil) rfl rfl rfl
  · have H := bf h H
    refine wk ?_
    refine awc_cond rfl (fun h => ?_) (fun h => ?_)
    · have H := bt h H
      refine wk ?_
      cases H
      exact fin_ret (.cons (.tmp rfl) .nil) rfl rfl rfl
    · have H := bf h H
      refine wk ?_
      refine awc_cond rfl (fun h => ?_) (fun h => ?_)
      · have H := bt h H
        refine wk ?_
        cases H
        exact fin_ret (.cons (.tmp rfl) .nil) rfl rfl rfl
      · have H := bf h H
        refine wk ?_
        cases H
        exact fin_ret (.cons (.tmp rfl) .nil) rfl rfl rfl
def leqPayload (a0 : TPayload) (a1 : TPayload) : Option Bool :=
  Option.bind (leqByteS a0.Data a1.Data) fun r1 => bif !r1 then (some false) else (some true)
theorem leqPayload_c {a0 : TPayload} {a1 : TPayload} {r : Bool} (H : leqPayload a0 a1 = some r) : Fn Tryd.prog 134 [.agg (eTPayload a0), .agg (eTPayload a1)] [.c (.d (.b r))] := by
  refine fn_in Tryd.func134 rfl (by kernel_rfl) Tryd.ntmps134 rfl rfl rfl ?_
  refine wk ?_
  obtain ⟨r1, hr1, H⟩ := ob H
  refine awr_n rfl (ca rfl rfl rfl (leqByteS_c hr1) trivial rfl rfl rfl rfl) ?_
  refine wk ?_
  refine awc_cond rfl (fun h => ?_) (fun h => ?_)
  · have H := bt h H
    refine wk ?_
    cases H
    exact fin_ret (.cons (.tmp rfl) .nil) rfl rfl rfl
  · have H := bf h H
    refine wk ?_
    cases H
    exact fin_ret (.cons (.tmp rfl) .nil) rfl rfl rfl
def leqPayloadS_L1 (a0 : List TPayload) (a1 : List TPayload) : Int → Option (Step (Int) (Bool))
  | v1 => bif ltB v1 ((a0.length : Nat) : Int) then (Option.bind (ix a0 v1) fun x2 => Option.bind (ix a1 v1) fun x3 => Option.bind (leqPayload x2 x3) fun r4 => bif !r4 then (dn (some false)) else (some (.next (WR (v1 + 1))))) else (dn (some true))
def leqPayloadS (a0 : List TPayload) (a1 : List TPayload) : Option Bool :=
  bif !eqB ((a0.length : Nat) : Int) ((a1.length : Nat) : Int) then (some false) else (iter (leqPayloadS_L1 a0 a1) FU 0)
theorem leqPayloadS_c {a0 : List TPayload} {a1 : List TPayload} {r : Bool} (H : leqPayloadS a0 a1 = some r) : Fn Tryd.prog 96 [aL (a0.map eTPayload), aL (a1.map eTPayload)] [.c (.d (.b r))] := by
  refine fn_in Tryd.func96 rfl (by kernel_rfl) Tryd.ntmps96 rfl rfl rfl ?_
  refine wkd ?_
  refine awc_cond rfl (fun h => ?_) (fun h => ?_)
  · have H := bt h H
    refine wkd ?_
    cases H
    exact fin_ret (.cons (.tmp rfl) .nil) rfl rfl rfl
  · have H := bf h H
    refine wkd ?_
    refine awc_iter (fun (q : Int) => ⟨[(0, .v (.c (.d false (.l (a0.map eTPayload))))), (1, .v (.c (.d false (.l (a1.map eTPayload))))), (5, tI q)], [], 0⟩) H (weak_of ⟨rfl, rfl, rfl, rfl, rfl, rfl, trivial⟩ trivial) ?_
    rintro v1 o H
    try dsimp only
    refine wkd ?_
    refine awc_cond rfl (fun h => ?_) (fun h => ?_)
    · have H := bt h H
      refine wkd ?_
      obtain ⟨x2, hx2, H⟩ := ob H
      refine dr_n rfl (xdT (enc := eTPayload) hx2 (fun _ => rfl) rfl rfl rfl) ?_
      refine wkd ?_
      obtain ⟨x3, hx3, H⟩ := ob H
      refine dr_n rfl (xdT (enc := eTPayload) hx3 (fun _ => rfl) rfl rfl rfl) ?_
      refine wkd ?_
      obtain ⟨r4, hr4, H⟩ := ob H
      refine dr_n rfl (ca rfl rfl rfl (leqPayload_c hr4) trivial rfl rfl rfl rfl) ?_
      refine wkd ?_
      refine awc_cond rfl (fun h => ?_) (fun h => ?_)
      · have H := bt h H
        refine wkd ?_
        obtain ⟨r0, Hd, rfl⟩ := dnE H
        refine iq_r (fun hq => ?_)
        have H := Hd.trans (congrArg some hq)
        refine wkd ?_
        cases H
        exact fin_ret (.cons (.tmp rfl) .nil) rfl rfl rfl
      · have H := bf h H
        refine wkd ?_
        cases H
        refine iq_n ?_
        exact weak_of ⟨rfl, rfl, rfl, rfl, rfl, rfl, trivial⟩ trivial
    · have H := bf h H
      refine wkd ?_
      obtain ⟨r0, Hd, rfl⟩ := dnE H
      refine iq_e (fun hq => ?_)
      have H := Hd.trans (congrArg some hq)
      refine wkd ?_
      cases H
      exact fin_ret (.cons (.tmp rfl) .nil) rfl rfl rfl
def leqNumberedPacket (a0 : TNumberedPacket) (a1 : TNumberedPacket) : Option Bool :=
  bif !eqB a0.Seq a1.Seq then (some false) else (Option.bind (leqByteS a0.Data a1.Data) fun r1 => bif !r1 then (some false) else (some true))
theorem leqNumberedPacket_c {a0 : TNumberedPacket} {a1 : TNumberedPacket} {r : Bool} (H : leqNumberedPacket a0 a1 = some r) : Fn Tryd.prog 143 [.agg (eTNumberedPacket a0), .agg (eTNumberedPacket a1)] [.c (.d (.b r))] := by
  refine fn_in Tryd.func143 rfl (by kernel_rfl) Tryd.ntmps143 rfl rfl rfl ?_
  refine wk ?_
  refine awc_cond rfl (fun h => ?_) (fun h => ?_)
  · have H := bt h H
    refine wk ?_
    cases H
    exact fin_ret (.cons (.tmp rfl) .nil) rfl rfl rfl
  · have H := bf h H
    refine wk ?_
    obtain ⟨r1, hr1, H⟩ := ob H
    refine awr_n rfl (ca rfl rfl rfl (leqByteS_c hr1) trivial rfl rfl rfl rfl) ?_
    refine wk ?_
    refine awc_cond rfl (fun h => ?_) (fun h => ?_)
    · have H := bt h H
      refine wk ?_
      cases H
      exact fin_ret (.cons (.tmp rfl) .nil) rfl rfl rfl
    · have H := bf h H
      refine wk ?_
      cases H
      exact fin_ret (.cons (.tmp rfl) .nil) rfl rfl rfl
def leqNumberedPacketS_L1 (a0 : List TNumberedPacket) (a1 : List TNumberedPacket) : Int → Option (Step (Int) (Bool))
  | v1 => bif ltB v1 ((a0.length : Nat) : Int) then (Option.bind (ix a0 v1) fun x2 => Option.bind (ix a1 v1) fun x3 => Option.bind (leqNumberedPacket x2 x3) fun r4 => bif !r4 then (dn (some false)) else (some (.next (WR (v1 + 1))))) else (dn (some true))
def leqNumberedPacketS (a0 : List TNumberedPacket) (a1 : List TNumberedPacket) : Option Bool :=
  bif !eqB ((a0.length : Nat) : Int) ((a1.length : Nat) : Int) then (some false) else (iter (leqNumberedPacketS_L1 a0 a1) FU 0)
theorem leqNumberedPacketS_c {a0 : List TNumberedPacket} {a1 : List TNumberedPacket} {r : Bool} (H : leqNumberedPacketS a0 a1 = some r) : Fn Tryd.prog 115 [aL (a0.map eTNumberedPacket), aL (a1.map eTNumberedPacket)] [.c (.d (.b r))] := by
  refine fn_in Tryd.func115 rfl (by kernel_rfl) Tryd.ntmps115 rfl rfl rfl ?_
  refine wkd ?_
  refine awc_cond rfl (fun h => ?_) (fun h => ?_)
  · have H := bt h H
    refine wkd ?_
    cases H
    exact fin_ret (.cons (.tmp rfl) .nil) rfl rfl rfl
  · have H := bf h H
    refine wkd ?_
    refine awc_iter (fun (q : Int) => ⟨[(0, .v (.c (.d false (.l (a0.map eTNumberedPacket))))), (1, .v (.c (.d false (.l (a1.map eTNumberedPacket))))), (5, tI q)], [], 0⟩) H (weak_of ⟨rfl, rfl, rfl, rfl, rfl, rfl, trivial⟩ trivial) ?_
    rintro v1 o H
    try dsimp only
    refine wkd ?_
    refine awc_cond rfl (fun h => ?_) (fun h => ?_)
    · have H := bt h H
      refine wkd ?_
      obtain ⟨x2, hx2, H⟩ := ob H
      refine dr_n rfl (xdT (enc := eTNumberedPacket) hx2 (fun _ => rfl) rfl rfl rfl) ?_
      refine wkd ?_
      obtain ⟨x3, hx3, H⟩ := ob H
      refine dr_n rfl (xdT (enc := eTNumberedPacket) hx3 (fun _ => rfl) rfl rfl rfl) ?_
      refine wkd ?_
      obtain ⟨r4, hr4, H⟩ := ob H
      refine dr_n rfl (ca rfl rfl rfl (leqNumberedPacket_c hr4) trivial rfl rfl rfl rfl) ?_
      refine wkd ?_
      refine awc_cond rfl (fun h => ?_) (fun h => ?_)
      · have H := bt h H
        refine wkd ?_
        obtain ⟨r0, Hd, rfl⟩ := dnE H
        refine iq_r (fun hq => ?_)
        have H := Hd.trans (congrArg some hq)
        refine wkd ?_
        cases H
        exact fin_ret (.cons (.tmp rfl) .nil) rfl rfl rfl
      · have H := bf h H
        refine wkd ?_
        cases H
        refine iq_n ?_
        exact weak_of ⟨rfl, rfl, rfl, rfl, rfl, rfl, trivial⟩ trivial
    · have H := bf h H
      refine wkd ?_
      obtain ⟨r0, Hd, rfl⟩ := dnE H
      refine iq_e (fun hq => ?_)
      have H := Hd.trans (congrArg some hq)
      refine wkd ?_
      cases H
      exact fin_ret (.cons (.tmp rfl) .nil) rfl rfl rfl
def leqReceiveWindow (a0 : TReceiveWindow) (a1 : TReceiveWindow) : Option Bool :=
  bif !eqB a0.Next a1.Next then (some false) else (Option.bind (leqNumberedPacketS a0.Pending a1.Pending) fun r1 => bif !r1 then (some false) else (Option.bind (leqPayloadS a0.Delivered a1.Delivered) fun r2 => bif !r2 then (some false) else (some true)))
theorem leqReceiveWindow_c {a0 : TReceiveWindow} {a1 : TReceiveWindow} {r : Bool} (H : leqReceiveWindow a0 a1 = some r) : Fn Tryd.prog 67 [.agg (eTReceiveWindow a0), .agg (eTReceiveWindow a1)] [.c (.d (.b r))] := by
  refine fn_in Tryd.func67 rfl (by kernel_rfl) Tryd.ntmps67 rfl rfl rfl ?_
  refine wk ?_
  refine awc_cond rfl (fun h => ?_) (fun h => ?_)
  · have H := bt h H
    refine wk ?_
    cases H
    exact fin_ret (.cons (.tmp rfl) .nil) rfl rfl rfl
  · have H := bf h H
    refine wk ?_
    obtain ⟨r1, hr1, H⟩ := ob H
    refine awr_n rfl (ca rfl rfl rfl (leqNumberedPacketS_c hr1) trivial rfl rfl rfl rfl) ?_
    refine wk ?_
    refine awc_cond rfl (fun h => ?_) (fun h => ?_)
    · have H := bt h H
      refine wk ?_
      cases H
      exact fin_ret (.cons (.tmp rfl) .nil) rfl rfl rfl
    · have H := bf h H
      refine wk ?_
      obtain ⟨r2, hr2, H⟩ := ob H
      refine awr_n rfl (ca rfl rfl rfl (leqPayloadS_c hr2) trivial rfl rfl rfl rfl) ?_
      refine wk ?_
      refine awc_cond rfl (fun h => ?_) (fun h => ?_)
      · have H := bt h H
        refine wk ?_
        cases H
        exact fin_ret (.cons (.tmp rfl) .nil) rfl rfl rfl
      · have H := bf h H
        refine wk ?_
        cases H
        exact fin_ret (.cons (.tmp rfl) .nil) rfl rfl rfl
def leqDevice (a0 : TDevice) (a1 : TDevice) : Option Bool :=
  Option.bind (leqUSIM a0.Card a1.Card) fun r1 => bif !r1 then (some false) else (bif !eqB a0.State a1.State then (some false) else (bif !eqB a0.Cell a1.Cell then (some false) else (bif !eqB a0.Generation a1.Generation then (some false) else (bif !eqB a0.RootKey a1.RootKey then (some false) else (bif !eqB a0.Epoch a1.Epoch then (some false) else (bif !(booB a0.PathConfirmed a1.PathConfirmed) then (some false) else (bif !eqB a0.Wait a1.Wait then (some false) else (Option.bind (leqReceiveWindow a0.Receiver a1.Receiver) fun r2 => bif !r2 then (some false) else (some true)))))))))
theorem leqDevice_c {a0 : TDevice} {a1 : TDevice} {r : Bool} (H : leqDevice a0 a1 = some r) : Fn Tryd.prog 28 [.agg (eTDevice a0), .agg (eTDevice a1)] [.c (.d (.b r))] := by
  refine fn_in Tryd.func28 rfl (by kernel_rfl) Tryd.ntmps28 rfl rfl rfl ?_
  refine wk ?_
  obtain ⟨r1, hr1, H⟩ := ob H
  refine awr_n rfl (ca rfl rfl rfl (leqUSIM_c hr1) trivial rfl rfl rfl rfl) ?_
  refine wk ?_
  refine awc_cond rfl (fun h => ?_) (fun h => ?_)
  · have H := bt h H
    refine wk ?_
    cases H
    exact fin_ret (.cons (.tmp rfl) .nil) rfl rfl rfl
  · have H := bf h H
    refine wk ?_
    refine awc_cond rfl (fun h => ?_) (fun h => ?_)
    · have H := bt h H
      refine wk ?_
      cases H
      exact fin_ret (.cons (.tmp rfl) .nil) rfl rfl rfl
    · have H := bf h H
      refine wk ?_
      refine awc_cond rfl (fun h => ?_) (fun h => ?_)
      · have H := bt h H
        refine wk ?_
        cases H
        exact fin_ret (.cons (.tmp rfl) .nil) rfl rfl rfl
      · have H := bf h H
        refine wk ?_
        refine awc_cond rfl (fun h => ?_) (fun h => ?_)
        · have H := bt h H
          refine wk ?_
          cases H
          exact fin_ret (.cons (.tmp rfl) .nil) rfl rfl rfl
        · have H := bf h H
          refine wk ?_
          refine awc_cond rfl (fun h => ?_) (fun h => ?_)
          · have H := bt h H
            refine wk ?_
            cases H
            exact fin_ret (.cons (.tmp rfl) .nil) rfl rfl rfl
          · have H := bf h H
            refine wk ?_
            refine awc_cond rfl (fun h => ?_) (fun h => ?_)
            · have H := bt h H
              refine wk ?_
              cases H
              exact fin_ret (.cons (.tmp rfl) .nil) rfl rfl rfl
            · have H := bf h H
              refine wk ?_
              refine awc_cond rfl (fun h => ?_) (fun h => ?_)
              · have H := bt h H
                refine wk ?_
                cases H
                exact fin_ret (.cons (.tmp rfl) .nil) rfl rfl rfl
              · have H := bf h H
                refine wk ?_
                refine awc_cond rfl (fun h => ?_) (fun h => ?_)
                · have H := bt h H
                  refine wk ?_
                  cases H
                  exact fin_ret (.cons (.tmp rfl) .nil) rfl rfl rfl
                · have H := bf h H
                  refine wk ?_
                  obtain ⟨r2, hr2, H⟩ := ob H
                  refine awr_n rfl (ca rfl rfl rfl (leqReceiveWindow_c hr2) trivial rfl rfl rfl rfl) ?_
                  refine wk ?_
                  refine awc_cond rfl (fun h => ?_) (fun h => ?_)
                  · have H := bt h H
                    refine wk ?_
                    cases H
                    exact fin_ret (.cons (.tmp rfl) .nil) rfl rfl rfl
                  · have H := bf h H
                    refine wk ?_
                    cases H
                    exact fin_ret (.cons (.tmp rfl) .nil) rfl rfl rfl
def lszIntS (a0 : List Int) (a1 : Int) : Option Int :=
  bif ltB (WR (a1 - ((a0.length : Nat) : Int))) 0 then (some (-1)) else (some (WR (a1 - ((a0.length : Nat) : Int))))
theorem lszIntS_c {a0 : List Int} {a1 : Int} {r : Int} (H : lszIntS a0 a1 = some r) : Fn Tryd.prog 129 [aL (a0.map eI), aI a1] [.c (.d (.i .i64 r))] := by
  refine fn_in Tryd.func129 rfl (by kernel_rfl) Tryd.ntmps129 rfl rfl rfl ?_
  refine wk ?_
  refine awc_cond rfl (fun h => ?_) (fun h => ?_)
  · have H := bt h H
    refine wk ?_
    cases H
    exact fin_ret (.cons (.tmp rfl) .nil) rfl rfl rfl
  · have H := bf h H
    refine wk ?_
    cases H
    exact fin_ret (.cons (.tmp rfl) .nil) rfl rfl rfl
def lszSubscription (a0 : TSubscription) (a1 : Int) : Option Int :=
  Option.bind (lszIntS a0.RoamingNetworks a1) fun r1 => bif ltB r1 0 then (some (-1)) else (some r1)
theorem lszSubscription_c {a0 : TSubscription} {a1 : Int} {r : Int} (H : lszSubscription a0 a1 = some r) : Fn Tryd.prog 79 [.agg (eTSubscription a0), aI a1] [.c (.d (.i .i64 r))] := by
  refine fn_in Tryd.func79 rfl (by kernel_rfl) Tryd.ntmps79 rfl rfl rfl ?_
  refine wk ?_
  obtain ⟨r1, hr1, H⟩ := ob H
  refine awr_n rfl (ca rfl rfl rfl (lszIntS_c hr1) trivial rfl rfl rfl rfl) ?_
  refine wk ?_
  refine awc_cond rfl (fun h => ?_) (fun h => ?_)
  · have H := bt h H
    refine wk ?_
    cases H
    exact fin_ret (.cons (.tmp rfl) .nil) rfl rfl rfl
  · have H := bf h H
    refine wk ?_
    cases H
    exact fin_ret (.cons (.tmp rfl) .nil) rfl rfl rfl
def lszSendWindow (a0 : TSendWindow) (a1 : Int) : Option Int :=
  Option.bind (lszNumberedPacketS a0.Unacked a1) fun r1 => bif ltB r1 0 then (some (-1)) else (some r1)
theorem lszSendWindow_c {a0 : TSendWindow} {a1 : Int} {r : Int} (H : lszSendWindow a0 a1 = some r) : Fn Tryd.prog 81 [.agg (eTSendWindow a0), aI a1] [.c (.d (.i .i64 r))] := by
  refine fn_in Tryd.func81 rfl (by kernel_rfl) Tryd.ntmps81 rfl rfl rfl ?_
  refine wk ?_
  obtain ⟨r1, hr1, H⟩ := ob H
  refine awr_n rfl (ca rfl rfl rfl (lszNumberedPacketS_c hr1) trivial rfl rfl rfl rfl) ?_
  refine wk ?_
  refine awc_cond rfl (fun h => ?_) (fun h => ?_)
  · have H := bt h H
    refine wk ?_
    cases H
    exact fin_ret (.cons (.tmp rfl) .nil) rfl rfl rfl
  · have H := bf h H
    refine wk ?_
    cases H
    exact fin_ret (.cons (.tmp rfl) .nil) rfl rfl rfl
def lszSession (a0 : TSession) (a1 : Int) : Option Int :=
  Option.bind (lszSubscription a0.Plan a1) fun r1 => bif ltB r1 0 then (some (-1)) else (Option.bind (lszPayloadS a0.Submitted r1) fun r2 => bif ltB r2 0 then (some (-1)) else (Option.bind (lszSendWindow a0.Window r2) fun r3 => bif ltB r3 0 then (some (-1)) else (some r3)))
theorem lszSession_c {a0 : TSession} {a1 : Int} {r : Int} (H : lszSession a0 a1 = some r) : Fn Tryd.prog 36 [.agg (eTSession a0), aI a1] [.c (.d (.i .i64 r))] := by
  refine fn_in Tryd.func36 rfl (by kernel_rfl) Tryd.ntmps36 rfl rfl rfl ?_
  refine wk ?_
  obtain ⟨r1, hr1, H⟩ := ob H
  refine awr_n rfl (ca rfl rfl rfl (lszSubscription_c hr1) trivial rfl rfl rfl rfl) ?_
  refine wk ?_
  refine awc_cond rfl (fun h => ?_) (fun h => ?_)
  · have H := bt h H
    refine wk ?_
    cases H
    exact fin_ret (.cons (.tmp rfl) .nil) rfl rfl rfl
  · have H := bf h H
    refine wk ?_
    obtain ⟨r2, hr2, H⟩ := ob H
    refine awr_n rfl (ca rfl rfl rfl (lszPayloadS_c hr2) trivial rfl rfl rfl rfl) ?_
    refine wk ?_
    refine awc_cond rfl (fun h => ?_) (fun h => ?_)
    · have H := bt h H
      refine wk ?_
      cases H
      exact fin_ret (.cons (.tmp rfl) .nil) rfl rfl rfl
    · have H := bf h H
      refine wk ?_
      obtain ⟨r3, hr3, H⟩ := ob H
      refine awr_n rfl (ca rfl rfl rfl (lszSendWindow_c hr3) trivial rfl rfl rfl rfl) ?_
      refine wk ?_
      refine awc_cond rfl (fun h => ?_) (fun h => ?_)
      · have H := bt h H
        refine wk ?_
        cases H
        exact fin_ret (.cons (.tmp rfl) .nil) rfl rfl rfl
      · have H := bf h H
        refine wk ?_
        cases H
        exact fin_ret (.cons (.tmp rfl) .nil) rfl rfl rfl
def ltoSubscriberRecord (a0 : TSubscriberRecord) : Option TSubscriberRecord :=
  Option.bind (ltoSubscriberID a0.ID) fun r1 => some (⟨r1, a0.Key, a0.Seq⟩ : TSubscriberRecord)
theorem ltoSubscriberRecord_c {a0 : TSubscriberRecord} {r : TSubscriberRecord} (H : ltoSubscriberRecord a0 = some r) : Fn Tryd.prog 83 [.agg (eTSubscriberRecord a0)] [.agg [.d (.i .i64 r.ID.Network), .d (.i .i64 r.ID.Number), .d (.i .i64 r.Key), .d (.i .i64 r.Seq)]] := by
  refine fn_in Tryd.func83 rfl (by kernel_rfl) Tryd.ntmps83 rfl rfl rfl ?_
  refine wk ?_
  obtain ⟨r1, hr1, H⟩ := ob H
  refine awr_n rfl (ca rfl rfl rfl (ltoSubscriberID_c hr1) trivial rfl rfl rfl rfl) ?_
  refine wk ?_
  cases H
  exact fin_ret (.cons (.cell rfl rfl rfl) .nil) rfl rfl rfl
def ltoIntS_L1 (a0 : List Int) : (Int × List Int) → Option (Step (Int × List Int) (List Int))
  | (v1, v2) => bif ltB v1 ((a0.length : Nat) : Int) then (Option.bind (ix a0 v1) fun x6 => Option.bind (ix v2 v1) fun x7 => some (.next (WR (v1 + 1), (v2.set (v1).toNat x6)))) else (some (.done v2))
def ltoIntS (a0 : List Int) : Option (List Int) :=
  bif mkOk 8 ((a0.length : Nat) : Int) ((a0.length : Nat) : Int) then (Option.bind (iter (ltoIntS_L1 a0) FU (0, (List.replicate (((a0.length : Nat) : Int)).toNat 0))) fun (v5 : List Int) => some v5) else none
theorem ltoIntS_c {a0 : List Int} {r : List Int} (H : ltoIntS a0 = some r) : Fn Tryd.prog 131 [aL (a0.map eI)] [.c (.own 3 1 (r.map eI) r.length)] := by
  refine fn_in Tryd.func131 rfl (by kernel_rfl) Tryd.ntmps131 rfl rfl rfl ?_
  refine wk ?_
  obtain ⟨h, H⟩ := rq H
  refine awr_n rfl (mkT (enc := eI) (za := 0) h (by rfl) rfl rfl rfl rfl) ?_
  refine wk ?_
  obtain ⟨v5, Hj, H⟩ := ob H
  refine awc_jblk ⟨[(3, .v (.c (.w 0 v5.length)))], [(0, .row 3 1 (v5.map eI) true true)], 1⟩ ?_ ?_
  · refine wk ?_
    refine awc_iter (fun (q : Int × List Int) => ⟨[(0, .v (.c (.d false (.l (a0.map eI))))), (3, .v (.c (.w 0 q.2.length))), (4, tI q.1)], [(0, .row 3 1 (q.2.map eI) true true)], 1⟩) Hj (weak_of ⟨rfl, rfl, wn rfl (by first | rfl | simp), rfl, rfl, rfl, trivial⟩ ⟨rfl, ⟨rfl, rfl⟩, trivial⟩) ?_
    rintro ⟨v1, v2⟩ o H
    try dsimp only
    refine wk ?_
    refine awc_cond rfl (fun h => ?_) (fun h => ?_)
    · have H := bt h H
      refine wk ?_
      obtain ⟨x6, hx6, H⟩ := ob H
      refine awr_n rfl (xdT (enc := eI) hx6 (fun _ => rfl) rfl rfl rfl) ?_
      refine wk ?_
      obtain ⟨x7, hx7, H⟩ := ob H
      refine awr_n rfl (xwT hx7 (by first | rfl | simp) rfl rfl rfl) ?_
      refine wk ?_
      refine awr_step rfl (soT (enc := eI) (a' := x6) hx7 rfl rfl rfl rfl rfl rfl rfl) ?_
      refine wk ?_
      cases H
      refine iq_n ?_
      exact weak_of ⟨rfl, rfl, wn rfl (by first | rfl | simp), rfl, rfl, rfl, trivial⟩ ⟨rfl, ⟨rfl, rfl⟩, trivial⟩
    · have H := bf h H
      refine wk ?_
      cases H
      refine iq_e (fun hq => ?_)
      cases hq
      refine wk ?_
      exact weak_of ⟨wn rfl (by first | rfl | simp), rfl, trivial⟩ ⟨rfl, ⟨rfl, rfl⟩, trivial⟩
  refine wk ?_
  cases H
  exact fin_ret (.cons (.tmp rfl) .nil) rfl rfl (by first | rfl | simp)
def ltoSubscription (a0 : TSubscription) : Option TSubscription :=
  Option.bind (ltoIntS a0.RoamingNetworks) fun r1 => some (⟨a0.RateLimit, a0.BestClass, a0.GrantSize, r1⟩ : TSubscription)
theorem ltoSubscription_c {a0 : TSubscription} {r : TSubscription} (H : ltoSubscription a0 = some r) : Fn Tryd.prog 84 [.agg (eTSubscription a0)] [.agg [.d (.i .i64 r.RateLimit), .d (.i .i64 r.BestClass), .d (.i .i64 r.GrantSize), .own 3 1 (r.RoamingNetworks.map eI) r.RoamingNetworks.length]] := by
  refine fn_in Tryd.func84 rfl (by kernel_rfl) Tryd.ntmps84 rfl rfl rfl ?_
  refine wk ?_
  obtain ⟨r1, hr1, H⟩ := ob H
  refine awr_n rfl (ca rfl rfl rfl (ltoIntS_c hr1) trivial rfl rfl rfl rfl) ?_
  refine wk ?_
  cases H
  exact fin_ret (.cons (.cell rfl rfl rfl) .nil) rfl rfl (by first | rfl | simp)
def ltoPagingState (a0 : TPagingState) : Option TPagingState :=
  some a0
theorem ltoPagingState_c {a0 : TPagingState} {r : TPagingState} (H : ltoPagingState a0 = some r) : Fn Tryd.prog 86 [.agg (eTPagingState a0)] [.agg [.d (.i .i64 r.Area), .d (.i .i64 r.Attempt), .d (.i .i64 r.Wait)]] := by
  refine fn_in Tryd.func86 rfl (by kernel_rfl) Tryd.ntmps86 rfl rfl rfl ?_
  refine wk ?_
  cases H
  exact fin_ret (.cons (.cell rfl rfl rfl) .nil) rfl rfl rfl
def ltoSendWindow (a0 : TSendWindow) : Option TSendWindow :=
  Option.bind (ltoNumberedPacketS a0.Unacked) fun r1 => some (⟨a0.Next, r1⟩ : TSendWindow)
theorem ltoSendWindow_c {a0 : TSendWindow} {r : TSendWindow} (H : ltoSendWindow a0 = some r) : Fn Tryd.prog 88 [.agg (eTSendWindow a0)] [.agg [.d (.i .i64 r.Next), .own 232 2 (r.Unacked.map eTNumberedPacket) r.Unacked.length]] := by
  refine fn_in Tryd.func88 rfl (by kernel_rfl) Tryd.ntmps88 rfl rfl rfl ?_
  refine wk ?_
  obtain ⟨r1, hr1, H⟩ := ob H
  refine awr_n rfl (ca rfl rfl rfl (ltoNumberedPacketS_c hr1) trivial rfl rfl rfl rfl) ?_
  refine wk ?_
  cases H
  exact fin_ret (.cons (.cell rfl rfl rfl) .nil) rfl rfl (by first | rfl | simp)
def ltoQuota (a0 : TQuota) : Option TQuota :=
  some a0
theorem ltoQuota_c {a0 : TQuota} {r : TQuota} (H : ltoQuota a0 = some r) : Fn Tryd.prog 89 [.agg (eTQuota a0)] [.agg [.d (.i .i64 r.SessionID), .d (.i .i64 r.Granted), .d (.i .i64 r.Used)]] := by
  refine fn_in Tryd.func89 rfl (by kernel_rfl) Tryd.ntmps89 rfl rfl rfl ?_
  refine wk ?_
  cases H
  exact fin_ret (.cons (.cell rfl rfl rfl) .nil) rfl rfl rfl
def ltoSession (a0 : TSession) : Option TSession :=
  Option.bind (ltoSubscriberRecord a0.Record) fun r1 => Option.bind (ltoSubscription a0.Plan) fun r2 => Option.bind (ltoAuthVector a0.Pending) fun r3 => Option.bind (ltoPagingState a0.Page) fun r4 => Option.bind (ltoPayloadS a0.Submitted) fun r5 => Option.bind (ltoSendWindow a0.Window) fun r6 => Option.bind (ltoQuota a0.Usage) fun r7 => some (⟨r1, r2, a0.State, r3, a0.PendingSeq, a0.Generation, a0.RootKey, a0.Epoch, a0.Cell, a0.Quiet, r4, r5, r6, a0.Retry, r7⟩ : TSession)
theorem ltoSession_c {a0 : TSession} {r : TSession} (H : ltoSession a0 = some r) : Fn Tryd.prog 38 [.agg (eTSession a0)] [.agg [.d (.i .i64 r.Record.ID.Network), .d (.i .i64 r.Record.ID.Number), .d (.i .i64 r.Record.Key), .d (.i .i64 r.Record.Seq), .d (.i .i64 r.Plan.RateLimit), .d (.i .i64 r.Plan.BestClass), .d (.i .i64 r.Plan.GrantSize), .own 3 1 (r.Plan.RoamingNetworks.map eI) r.Plan.RoamingNetworks.length, .d (.i .i64 r.State), .d (.i .i64 r.Pending.Rand), .d (.i .i64 r.Pending.Autn), .d (.i .i64 r.Pending.MAC), .d (.i .i64 r.Pending.Res), .d (.i .i64 r.Pending.Key), .d (.i .i64 r.PendingSeq), .d (.i .i64 r.Generation), .d (.i .i64 r.RootKey), .d (.i .i64 r.Epoch), .d (.i .i64 r.Cell), .d (.i .i64 r.Quiet), .d (.i .i64 r.Page.Area), .d (.i .i64 r.Page.Attempt), .d (.i .i64 r.Page.Wait), .own 221 1 (r.Submitted.map eTPayload) r.Submitted.length, .d (.i .i64 r.Window.Next), .own 232 2 (r.Window.Unacked.map eTNumberedPacket) r.Window.Unacked.length, .d (.i .i64 r.Retry), .d (.i .i64 r.Usage.SessionID), .d (.i .i64 r.Usage.Granted), .d (.i .i64 r.Usage.Used)]] := by
  refine fn_in Tryd.func38 rfl (by kernel_rfl) Tryd.ntmps38 rfl rfl rfl ?_
  refine wk ?_
  obtain ⟨r1, hr1, H⟩ := ob H
  refine awr_n rfl (ca rfl rfl rfl (ltoSubscriberRecord_c hr1) trivial rfl rfl rfl rfl) ?_
  refine wk ?_
  obtain ⟨r2, hr2, H⟩ := ob H
  refine awr_n rfl (ca rfl rfl rfl (ltoSubscription_c hr2) trivial rfl rfl rfl rfl) ?_
  refine wk ?_
  obtain ⟨r3, hr3, H⟩ := ob H
  refine awr_n rfl (ca rfl rfl rfl (ltoAuthVector_c hr3) trivial rfl rfl rfl rfl) ?_
  refine wk ?_
  obtain ⟨r4, hr4, H⟩ := ob H
  refine awr_n rfl (ca rfl rfl rfl (ltoPagingState_c hr4) trivial rfl rfl rfl rfl) ?_
  refine wk ?_
  obtain ⟨r5, hr5, H⟩ := ob H
  refine awr_n rfl (ca rfl rfl rfl (ltoPayloadS_c hr5) trivial rfl rfl rfl rfl) ?_
  refine wk ?_
  obtain ⟨r6, hr6, H⟩ := ob H
  refine awr_n rfl (ca rfl rfl rfl (ltoSendWindow_c hr6) trivial rfl rfl rfl rfl) ?_
  refine wk ?_
  obtain ⟨r7, hr7, H⟩ := ob H
  refine awr_n rfl (ca rfl rfl rfl (ltoQuota_c hr7) trivial rfl rfl rfl rfl) ?_
  refine wk ?_
  cases H
  exact fin_ret (.cons (.cell rfl rfl rfl) .nil) rfl rfl (by first | rfl | simp)
def leqSubscriberRecord (a0 : TSubscriberRecord) (a1 : TSubscriberRecord) : Option Bool :=
  Option.bind (leqSubscriberID a0.ID a1.ID) fun r1 => bif !r1 then (some false) else (bif !eqB a0.Key a1.Key then (some false) else (bif !eqB a0.Seq a1.Seq then (some false) else (some true)))
theorem leqSubscriberRecord_c {a0 : TSubscriberRecord} {a1 : TSubscriberRecord} {r : Bool} (H : leqSubscriberRecord a0 a1 = some r) : Fn Tryd.prog 92 [.agg (eTSubscriberRecord a0), .agg (eTSubscriberRecord a1)] [.c (.d (.b r))] := by
  refine fn_in Tryd.func92 rfl (by kernel_rfl) Tryd.ntmps92 rfl rfl rfl ?_
  refine wk ?_
  obtain ⟨r1, hr1, H⟩ := ob H
  refine awr_n rfl (ca rfl rfl rfl (leqSubscriberID_c hr1) trivial rfl rfl rfl rfl) ?_
  refine wk ?_
  refine awc_cond rfl (fun h => ?_) (fun h => ?_)
  · have H := bt h H
    refine wk ?_
    cases H
    exact fin_ret (.cons (.tmp rfl) .nil) rfl rfl rfl
  · have H := bf h H
    refine wk ?_
    refine awc_cond rfl (fun h => ?_) (fun h => ?_)
    · have H := bt h H
      refine wk ?_
      cases H
      exact fin_ret (.cons (.tmp rfl) .nil) rfl rfl rfl
    · have H := bf h H
      refine wk ?_
      refine awc_cond rfl (fun h => ?_) (fun h => ?_)
      · have H := bt h H
        refine wk ?_
        cases H
        exact fin_ret (.cons (.tmp rfl) .nil) rfl rfl rfl
      · have H := bf h H
        refine wk ?_
        cases H
        exact fin_ret (.cons (.tmp rfl) .nil) rfl rfl rfl
def leqIntS_L1 (a0 : List Int) (a1 : List Int) : Int → Option (Step (Int) (Bool))
  | v1 => bif ltB v1 ((a0.length : Nat) : Int) then (Option.bind (ix a0 v1) fun x2 => Option.bind (ix a1 v1) fun x3 => bif !eqB x2 x3 then (dn (some false)) else (some (.next (WR (v1 + 1))))) else (dn (some true))
def leqIntS (a0 : List Int) (a1 : List Int) : Option Bool :=
  bif !eqB ((a0.length : Nat) : Int) ((a1.length : Nat) : Int) then (some false) else (iter (leqIntS_L1 a0 a1) FU 0)
theorem leqIntS_c {a0 : List Int} {a1 : List Int} {r : Bool} (H : leqIntS a0 a1 = some r) : Fn Tryd.prog 133 [aL (a0.map eI), aL (a1.map eI)] [.c (.d (.b r))] := by
  refine fn_in Tryd.func133 rfl (by kernel_rfl) Tryd.ntmps133 rfl rfl rfl ?_
  refine wkd ?_
  refine awc_cond rfl (fun h => ?_) (fun h => ?_)
  · have H := bt h H
    refine wkd ?_
    cases H
    exact fin_ret (.cons (.tmp rfl) .nil) rfl rfl rfl
  · have H := bf h H
    refine wkd ?_
    refine awc_iter (fun (q : Int) => ⟨[(0, .v (.c (.d false (.l (a0.map eI))))), (1, .v (.c (.d false (.l (a1.map eI))))), (5, tI q)], [], 0⟩) H (weak_of ⟨rfl, rfl, rfl, rfl, rfl, rfl, trivial⟩ trivial) ?_
    rintro v1 o H
    try dsimp only
    refine wkd ?_
    refine awc_cond rfl (fun h => ?_) (fun h => ?_)
    · have H := bt h H
      refine wkd ?_
      obtain ⟨x2, hx2, H⟩ := ob H
      refine dr_n rfl (xdT (enc := eI) hx2 (fun _ => rfl) rfl rfl rfl) ?_
      refine wkd ?_
      obtain ⟨x3, hx3, H⟩ := ob H
      refine dr_n rfl (xdT (enc := eI) hx3 (fun _ => rfl) rfl rfl rfl) ?_
      refine wkd ?_
      refine awc_cond rfl (fun h => ?_) (fun h => ?_)
      · have H := bt h H
        refine wkd ?_
        obtain ⟨r0, Hd, rfl⟩ := dnE H
        refine iq_r (fun hq => ?_)
        have H := Hd.trans (congrArg some hq)
        refine wkd ?_
        cases H
        exact fin_ret (.cons (.tmp rfl) .nil) rfl rfl rfl
      · have H := bf h H
        refine wkd ?_
        cases H
        refine iq_n ?_
        exact weak_of ⟨rfl, rfl, rfl, rfl, rfl, rfl, trivial⟩ trivial
    · have H := bf h H
      refine wkd ?_
      obtain ⟨r0, Hd, rfl⟩ := dnE H
      refine iq_e (fun hq => ?_)
      have H := Hd.trans (congrArg some hq)
      refine wkd ?_
      cases H
      exact fin_ret (.cons (.tmp rfl) .nil) rfl rfl rfl
def leqSubscription (a0 : TSubscription) (a1 : TSubscription) : Option Bool :=
  bif !eqB a0.RateLimit a1.RateLimit then (some false) else (bif !eqB a0.BestClass a1.BestClass then (some false) else (bif !eqB a0.GrantSize a1.GrantSize then (some false) else (Option.bind (leqIntS a0.RoamingNetworks a1.RoamingNetworks) fun r1 => bif !r1 then (some false) else (some true))))
theorem leqSubscription_c {a0 : TSubscription} {a1 : TSubscription} {r : Bool} (H : leqSubscription a0 a1 = some r) : Fn Tryd.prog 93 [.agg (eTSubscription a0), .agg (eTSubscription a1)] [.c (.d (.b r))] := by
  refine fn_in Tryd.func93 rfl (by kernel_rfl) Tryd.ntmps93 rfl rfl rfl ?_
  refine wk ?_
  refine awc_cond rfl (fun h => ?_) (fun h => ?_)
  · have H := bt h H
    refine wk ?_
    cases H
    exact fin_ret (.cons (.tmp rfl) .nil) rfl rfl rfl
  · have H := bf h H
    refine wk ?_
    refine awc_cond rfl (fun h => ?_) (fun h => ?_)
    · have H := bt h H
      refine wk ?_
      cases H
      exact fin_ret (.cons (.tmp rfl) .nil) rfl rfl rfl
    · have H := bf h H
      refine wk ?_
      refine awc_cond rfl (fun h => ?_) (fun h => ?_)
      · have H := bt h H
        refine wk ?_
        cases H
        exact fin_ret (.cons (.tmp rfl) .nil) rfl rfl rfl
      · have H := bf h H
        refine wk ?_
        obtain ⟨r1, hr1, H⟩ := ob H
        refine awr_n rfl (ca rfl rfl rfl (leqIntS_c hr1) trivial rfl rfl rfl rfl) ?_
        refine wk ?_
        refine awc_cond rfl (fun h => ?_) (fun h => ?_)
        · have H := bt h H
          refine wk ?_
          cases H
          exact fin_ret (.cons (.tmp rfl) .nil) rfl rfl rfl
        · have H := bf h H
          refine wk ?_
          cases H
          exact fin_ret (.cons (.tmp rfl) .nil) rfl rfl rfl
def leqPagingState (a0 : TPagingState) (a1 : TPagingState) : Option Bool :=
  bif !eqB a0.Area a1.Area then (some false) else (bif !eqB a0.Attempt a1.Attempt then (some false) else (bif !eqB a0.Wait a1.Wait then (some false) else (some true)))
theorem leqPagingState_c {a0 : TPagingState} {a1 : TPagingState} {r : Bool} (H : leqPagingState a0 a1 = some r) : Fn Tryd.prog 95 [.agg (eTPagingState a0), .agg (eTPagingState a1)] [.c (.d (.b r))] := by
  refine fn_in Tryd.func95 rfl (by kernel_rfl) Tryd.ntmps95 rfl rfl rfl ?_
  refine wk ?_
  refine awc_cond rfl (fun h => ?_) (fun h => ?_)
  · have H := bt h H
    refine wk ?_
    cases H
    exact fin_ret (.cons (.tmp rfl) .nil) rfl rfl rfl
  · have H := bf h H
    refine wk ?_
    refine awc_cond rfl (fun h => ?_) (fun h => ?_)
    · have H := bt h H
      refine wk ?_
      cases H
      exact fin_ret (.cons (.tmp rfl) .nil) rfl rfl rfl
    · have H := bf h H
      refine wk ?_
      refine awc_cond rfl (fun h => ?_) (fun h => ?_)
      · have H := bt h H
        refine wk ?_
        cases H
        exact fin_ret (.cons (.tmp rfl) .nil) rfl rfl rfl
      · have H := bf h H
        refine wk ?_
        cases H
        exact fin_ret (.cons (.tmp rfl) .nil) rfl rfl rfl
def leqSendWindow (a0 : TSendWindow) (a1 : TSendWindow) : Option Bool :=
  bif !eqB a0.Next a1.Next then (some false) else (Option.bind (leqNumberedPacketS a0.Unacked a1.Unacked) fun r1 => bif !r1 then (some false) else (some true))
theorem leqSendWindow_c {a0 : TSendWindow} {a1 : TSendWindow} {r : Bool} (H : leqSendWindow a0 a1 = some r) : Fn Tryd.prog 97 [.agg (eTSendWindow a0), .agg (eTSendWindow a1)] [.c (.d (.b r))] := by
  refine fn_in Tryd.func97 rfl (by kernel_rfl) Tryd.ntmps97 rfl rfl rfl ?_
  refine wk ?_
  refine awc_cond rfl (fun h => ?_) (fun h => ?_)
  · have H := bt h H
    refine wk ?_
    cases H
    exact fin_ret (.cons (.tmp rfl) .nil) rfl rfl rfl
  · have H := bf h H
    refine wk ?_
    obtain ⟨r1, hr1, H⟩ := ob H
    refine awr_n rfl (ca rfl rfl rfl (leqNumberedPacketS_c hr1) trivial rfl rfl rfl rfl) ?_
    refine wk ?_
    refine awc_cond rfl (fun h => ?_) (fun h => ?_)
    · have H := bt h H
      refine wk ?_
      cases H
      exact fin_ret (.cons (.tmp rfl) .nil) rfl rfl rfl
    · have H := bf h H
      refine wk ?_
      cases H
      exact fin_ret (.cons (.tmp rfl) .nil) rfl rfl rfl
def leqQuota (a0 : TQuota) (a1 : TQuota) : Option Bool :=
  bif !eqB a0.SessionID a1.SessionID then (some false) else (bif !eqB a0.Granted a1.Granted then (some false) else (bif !eqB a0.Used a1.Used then (some false) else (some true)))
theorem leqQuota_c {a0 : TQuota} {a1 : TQuota} {r : Bool} (H : leqQuota a0 a1 = some r) : Fn Tryd.prog 98 [.agg (eTQuota a0), .agg (eTQuota a1)] [.c (.d (.b r))] := by
  refine fn_in Tryd.func98 rfl (by kernel_rfl) Tryd.ntmps98 rfl rfl rfl ?_
  refine wk ?_
  refine awc_cond rfl (fun h => ?_) (fun h => ?_)
  · have H := bt h H
    refine wk ?_
    cases H
    exact fin_ret (.cons (.tmp rfl) .nil) rfl rfl rfl
  · have H := bf h H
    refine wk ?_
    refine awc_cond rfl (fun h => ?_) (fun h => ?_)
    · have H := bt h H
      refine wk ?_
      cases H
      exact fin_ret (.cons (.tmp rfl) .nil) rfl rfl rfl
    · have H := bf h H
      refine wk ?_
      refine awc_cond rfl (fun h => ?_) (fun h => ?_)
      · have H := bt h H
        refine wk ?_
        cases H
        exact fin_ret (.cons (.tmp rfl) .nil) rfl rfl rfl
      · have H := bf h H
        refine wk ?_
        cases H
        exact fin_ret (.cons (.tmp rfl) .nil) rfl rfl rfl
def leqSession (a0 : TSession) (a1 : TSession) : Option Bool :=
  Option.bind (leqSubscriberRecord a0.Record a1.Record) fun r1 => bif !r1 then (some false) else (Option.bind (leqSubscription a0.Plan a1.Plan) fun r2 => bif !r2 then (some false) else (bif !eqB a0.State a1.State then (some false) else (Option.bind (leqAuthVector a0.Pending a1.Pending) fun r3 => bif !r3 then (some false) else (bif !eqB a0.PendingSeq a1.PendingSeq then (some false) else (bif !eqB a0.Generation a1.Generation then (some false) else (bif !eqB a0.RootKey a1.RootKey then (some false) else (bif !eqB a0.Epoch a1.Epoch then (some false) else (bif !eqB a0.Cell a1.Cell then (some false) else (bif !eqB a0.Quiet a1.Quiet then (some false) else (Option.bind (leqPagingState a0.Page a1.Page) fun r4 => bif !r4 then (some false) else (Option.bind (leqPayloadS a0.Submitted a1.Submitted) fun r5 => bif !r5 then (some false) else (Option.bind (leqSendWindow a0.Window a1.Window) fun r6 => bif !r6 then (some false) else (bif !eqB a0.Retry a1.Retry then (some false) else (Option.bind (leqQuota a0.Usage a1.Usage) fun r7 => bif !r7 then (some false) else (some true)))))))))))))))
theorem leqSession_c {a0 : TSession} {a1 : TSession} {r : Bool} (H : leqSession a0 a1 = some r) : Fn Tryd.prog 40 [.agg (eTSession a0), .agg (eTSession a1)] [.c (.d (.b r))] := by
  refine fn_in Tryd.func40 rfl (by kernel_rfl) Tryd.ntmps40 rfl rfl rfl ?_
  refine wk ?_
  obtain ⟨r1, hr1, H⟩ := ob H
  refine awr_n rfl (ca rfl rfl rfl (leqSubscriberRecord_c hr1) trivial rfl rfl rfl rfl) ?_
  refine wk ?_
  refine awc_cond rfl (fun h => ?_) (fun h => ?_)
  · have H := bt h H
    refine wk ?_
    cases H
    exact fin_ret (.cons (.tmp rfl) .nil) rfl rfl rfl
  · have H := bf h H
    refine wk ?_
    obtain ⟨r2, hr2, H⟩ := ob H
    refine awr_n rfl (ca rfl rfl rfl (leqSubscription_c hr2) trivial rfl rfl rfl rfl) ?_
    refine wk ?_
    refine awc_cond rfl (fun h => ?_) (fun h => ?_)
    · have H := bt h H
      refine wk ?_
      cases H
      exact fin_ret (.cons (.tmp rfl) .nil) rfl rfl rfl
    · have H := bf h H
      refine wk ?_
      refine awc_cond rfl (fun h => ?_) (fun h => ?_)
      · have H := bt h H
        refine wk ?_
        cases H
        exact fin_ret (.cons (.tmp rfl) .nil) rfl rfl rfl
      · have H := bf h H
        refine wk ?_
        obtain ⟨r3, hr3, H⟩ := ob H
        refine awr_n rfl (ca rfl rfl rfl (leqAuthVector_c hr3) trivial rfl rfl rfl rfl) ?_
        refine wk ?_
        refine awc_cond rfl (fun h => ?_) (fun h => ?_)
        · have H := bt h H
          refine wk ?_
          cases H
          exact fin_ret (.cons (.tmp rfl) .nil) rfl rfl rfl
        · have H := bf h H
          refine wk ?_
          refine awc_cond rfl (fun h => ?_) (fun h => ?_)
          · have H := bt h H
            refine wk ?_
            cases H
            exact fin_ret (.cons (.tmp rfl) .nil) rfl rfl rfl
          · have H := bf h H
            refine wk ?_
            refine awc_cond rfl (fun h => ?_) (fun h => ?_)
            · have H := bt h H
              refine wk ?_
              cases H
              exact fin_ret (.cons (.tmp rfl) .nil) rfl rfl rfl
            · have H := bf h H
              refine wk ?_
              refine awc_cond rfl (fun h => ?_) (fun h => ?_)
              · have H := bt h H
                refine wk ?_
                cases H
                exact fin_ret (.cons (.tmp rfl) .nil) rfl rfl rfl
              · have H := bf h H
                refine wk ?_
                refine awc_cond rfl (fun h => ?_) (fun h => ?_)
                · have H := bt h H
                  refine wk ?_
                  cases H
                  exact fin_ret (.cons (.tmp rfl) .nil) rfl rfl rfl
                · have H := bf h H
                  refine wk ?_
                  refine awc_cond rfl (fun h => ?_) (fun h => ?_)
                  · have H := bt h H
                    refine wk ?_
                    cases H
                    exact fin_ret (.cons (.tmp rfl) .nil) rfl rfl rfl
                  · have H := bf h H
                    refine wk ?_
                    refine awc_cond rfl (fun h => ?_) (fun h => ?_)
                    · have H := bt h H
                      refine wk ?_
                      cases H
                      exact fin_ret (.cons (.tmp rfl) .nil) rfl rfl rfl
                    · have H := bf h H
                      refine wk ?_
                      obtain ⟨r4, hr4, H⟩ := ob H
                      refine awr_n rfl (ca rfl rfl rfl (leqPagingState_c hr4) trivial rfl rfl rfl rfl) ?_
                      refine wk ?_
                      refine awc_cond rfl (fun h => ?_) (fun h => ?_)
                      · have H := bt h H
                        refine wk ?_
                        cases H
                        exact fin_ret (.cons (.tmp rfl) .nil) rfl rfl rfl
                      · have H := bf h H
                        refine wk ?_
                        obtain ⟨r5, hr5, H⟩ := ob H
                        refine awr_n rfl (ca rfl rfl rfl (leqPayloadS_c hr5) trivial rfl rfl rfl rfl) ?_
                        refine wk ?_
                        refine awc_cond rfl (fun h => ?_) (fun h => ?_)
                        · have H := bt h H
                          refine wk ?_
                          cases H
                          exact fin_ret (.cons (.tmp rfl) .nil) rfl rfl rfl
                        · have H := bf h H
                          refine wk ?_
                          obtain ⟨r6, hr6, H⟩ := ob H
                          refine awr_n rfl (ca rfl rfl rfl (leqSendWindow_c hr6) trivial rfl rfl rfl rfl) ?_
                          refine wk ?_
                          refine awc_cond rfl (fun h => ?_) (fun h => ?_)
                          · have H := bt h H
                            refine wk ?_
                            cases H
                            exact fin_ret (.cons (.tmp rfl) .nil) rfl rfl rfl
                          · have H := bf h H
                            refine wk ?_
                            refine awc_cond rfl (fun h => ?_) (fun h => ?_)
                            · have H := bt h H
                              refine wk ?_
                              cases H
                              exact fin_ret (.cons (.tmp rfl) .nil) rfl rfl rfl
                            · have H := bf h H
                              refine wk ?_
                              obtain ⟨r7, hr7, H⟩ := ob H
                              refine awr_n rfl (ca rfl rfl rfl (leqQuota_c hr7) trivial rfl rfl rfl rfl) ?_
                              refine wk ?_
                              refine awc_cond rfl (fun h => ?_) (fun h => ?_)
                              · have H := bt h H
                                refine wk ?_
                                cases H
                                exact fin_ret (.cons (.tmp rfl) .nil) rfl rfl rfl
                              · have H := bf h H
                                refine wk ?_
                                cases H
                                exact fin_ret (.cons (.tmp rfl) .nil) rfl rfl rfl
end Go.AM
