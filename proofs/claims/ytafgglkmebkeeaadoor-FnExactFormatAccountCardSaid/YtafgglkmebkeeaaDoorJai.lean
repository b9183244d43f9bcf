/-
  Own text: a part of the abstract machine for this seat (Jai). No statement is proved here.
-/
import Derived.Test.YtafgglkmebkeeaaDoorJag
set_option linter.unusedVariables false
namespace Go.AM
open Go.Proofs
attribute [local irreducible] AWN NS AWO AWR AWC DR Weak iterQ
set_option maxRecDepth 100000
set_option maxHeartbeats 4000000
def iFormatInt (a0 : Int) : Option ByteArray :=
  Option.bind (gItoa a0) fun r1 => some r1
theorem iFormatInt_c {a0 : Int} {r : ByteArray} (H : iFormatInt a0 = some r) : Fn Tryd.prog 43 [aI a0] [.c (.d (.str r))] := by
  refine fn_in Tryd.func43 rfl (by kernel_rfl) Tryd.ntmps43 rfl rfl rfl ?_
  refine wk ?_
  obtain ⟨r1, hr1, H⟩ := ob H
  refine awr_n rfl (ca rfl rfl rfl (gItoa_c hr1) trivial rfl rfl rfl rfl) ?_
  refine wk ?_
  cases H
  exact fin_ret (.cons (.tmp rfl) .nil) rfl rfl rfl
def iFormatStatement_L1 (a0 : List TStatementLine) : (Int × List ByteArray) → Option (Step (Int × List ByteArray) (List ByteArray))
  | (v1, v2) => bif ltB v1 ((a0.length : Nat) : Int) then (Option.bind (ix a0 v1) fun x9 => Option.bind (iFormatInt x9.Payer) fun r10 => bif saOk r10 (⟨#[62]⟩ : ByteArray) then (Option.bind (iFormatInt x9.Payee) fun r11 => bif saOk (r10 ++ (⟨#[62]⟩ : ByteArray)) r11 then (bif saOk ((r10 ++ (⟨#[62]⟩ : ByteArray)) ++ r11) (⟨#[58]⟩ : ByteArray) then (Option.bind (iFormatInt x9.Amount) fun r12 => bif saOk (((r10 ++ (⟨#[62]⟩ : ByteArray)) ++ r11) ++ (⟨#[58]⟩ : ByteArray)) r12 then (Option.bind (ix v2 v1) fun x13 => some (.next (WR (v1 + 1), (v2.set (v1).toNat ((((r10 ++ (⟨#[62]⟩ : ByteArray)) ++ r11) ++ (⟨#[58]⟩ : ByteArray)) ++ r12))))) else none) else none) else none) else none) else (some (.done v2))
def iFormatStatement (a0 : List TStatementLine) : Option ByteArray :=
  bif eqB ((a0.length : Nat) : Int) 0 then (some ⟨#[45]⟩) else (bif mkOk 16 ((a0.length : Nat) : Int) ((a0.length : Nat) : Int) then (Option.bind (iter (iFormatStatement_L1 a0) FU (0, (List.replicate (((a0.length : Nat) : Int)).toNat (⟨#[]⟩ : ByteArray)))) fun (v8 : List ByteArray) => Option.bind (gJoin v8 ⟨#[32]⟩) fun r14 => some r14) else none)
theorem iFormatStatement_c {a0 : List TStatementLine} {r : ByteArray} (H : iFormatStatement a0 = some r) : Fn Tryd.prog 12 [aL (a0.map eTStatementLine)] [.c (.d (.str r))] := by
  refine fn_in Tryd.func12 rfl (by kernel_rfl) Tryd.ntmps12 rfl rfl rfl ?_
  refine wkz ?_
  refine awc_cond rfl (fun h => ?_) (fun h => ?_)
  · have H := bt h H
    refine wkz ?_
    cases H
    exact fin_ret (.cons (.tmp rfl) .nil) rfl rfl rfl
  · have H := bf h H
    refine wkz ?_
    obtain ⟨h, H⟩ := rq H
    refine awr_n rfl (mkT (enc := eS) (za := (⟨#[]⟩ : ByteArray)) h (by rfl) rfl rfl rfl rfl) ?_
    refine wkz ?_
    obtain ⟨v8, Hj, H⟩ := ob H
    refine awc_jblk ⟨[(3, .v (.c (.w 0 v8.length)))], [(0, .row 9 1 (v8.map eS) true true)], 1⟩ ?_ ?_
    · refine wkz ?_
      refine awc_iter (fun (q : Int × List ByteArray) => ⟨[(3, .v (.c (.w 0 q.2.length))), (12, .v (.c (.d false (.l (a0.map eTStatementLine))))), (13, tI ((a0.length : Nat) : Int)), (14, tI q.1)], [(0, .row 9 1 (q.2.map eS) true true)], 1⟩) Hj (weak_of ⟨wn rfl (by first | rfl | simp), rfl, rfl, rfl, rfl, rfl, rfl, rfl, trivial⟩ ⟨rfl, ⟨rfl, rfl⟩, trivial⟩) ?_
      rintro ⟨v1, v2⟩ o H
      try dsimp only
      refine wkz ?_
      refine awc_cond rfl (fun h => ?_) (fun h => ?_)
      · have H := bt h H
        refine wkz ?_
        obtain ⟨x9, hx9, H⟩ := ob H
        refine awr_n rfl (xdT (enc := eTStatementLine) hx9 (fun _ => rfl) rfl rfl rfl) ?_
        refine wkz ?_
        refine awc_dz [0, 1, 2, 3, 4, 5, 6, 7, 8, 9, 10, 11, 12, 13, 14, 15, 16] Try.follows (by kernel_rfl) (by kernel_rfl) rfl ?_
        refine wkz ?_
        obtain ⟨r10, hr10, H⟩ := ob H
        refine dz_n rfl (ca rfl rfl rfl (iFormatInt_c hr10) trivial rfl rfl rfl rfl) ?_
        refine wkz ?_
        obtain ⟨h, H⟩ := rq H
        refine dz_n rfl (saT h rfl rfl rfl) ?_
        refine wkz ?_
        obtain ⟨r11, hr11, H⟩ := ob H
        refine dz_n rfl (ca rfl rfl rfl (iFormatInt_c hr11) trivial rfl rfl rfl rfl) ?_
        refine wkz ?_
        obtain ⟨h, H⟩ := rq H
        refine dz_n rfl (saT h rfl rfl rfl) ?_
        refine wkz ?_
        obtain ⟨h, H⟩ := rq H
        refine dz_n rfl (saT h rfl rfl rfl) ?_
        refine wkz ?_
        obtain ⟨r12, hr12, H⟩ := ob H
        refine dz_n rfl (ca rfl rfl rfl (iFormatInt_c hr12) trivial rfl rfl rfl rfl) ?_
        refine wkz ?_
        obtain ⟨h, H⟩ := rq H
        refine dz_n rfl (saT h rfl rfl rfl) ?_
        refine wkz ?_
        obtain ⟨x13, hx13, H⟩ := ob H
        refine dz_n rfl (xwT hx13 (by first | rfl | simp) rfl rfl rfl) ?_
        refine wkz ?_
        refine dz_bar (by kernel_rfl) (by kernel_rfl) weak_id (bo_n rfl (soT (enc := eS) (a' := (((r10 ++ (⟨#[62]⟩ : ByteArray)) ++ r11) ++ (⟨#[58]⟩ : ByteArray)) ++ r12) hx13 rfl rfl rfl rfl rfl rfl rfl)) weak_id rfl ?_
        refine wkz ?_
        cases H
        refine iq_n ?_
        exact weak_of ⟨wn rfl (by first | rfl | simp), rfl, rfl, rfl, rfl, rfl, rfl, rfl, trivial⟩ ⟨rfl, ⟨rfl, rfl⟩, trivial⟩
      · have H := bf h H
        refine wkz ?_
        cases H
        refine iq_e (fun hq => ?_)
        cases hq
        refine wkz ?_
        exact weak_of ⟨wn rfl (by first | rfl | simp), rfl, trivial⟩ ⟨rfl, ⟨rfl, rfl⟩, trivial⟩
    refine wkz ?_
    obtain ⟨r14, hr14, H⟩ := ob H
    refine awr_n rfl (ca rfl rfl rfl (gJoin_c hr14) ⟨by first | rfl | exact lm _, trivial⟩ rfl rfl rfl rfl) ?_
    refine wkz ?_
    cases H
    exact fin_ret (.cons (.tmp rfl) .nil) rfl rfl rfl
def ijoinInts_L1 (a0 : List Int) : (Int × List ByteArray) → Option (Step (Int × List ByteArray) (List ByteArray))
  | (v1, v2) => bif ltB v1 ((a0.length : Nat) : Int) then (Option.bind (ix a0 v1) fun x7 => Option.bind (iFormatInt x7) fun r8 => Option.bind (ix v2 v1) fun x9 => some (.next (WR (v1 + 1), (v2.set (v1).toNat r8)))) else (some (.done v2))
def ijoinInts (a0 : List Int) (a1 : ByteArray) : Option ByteArray :=
  bif mkOk 16 ((a0.length : Nat) : Int) ((a0.length : Nat) : Int) then (Option.bind (iter (ijoinInts_L1 a0) FU (0, (List.replicate (((a0.length : Nat) : Int)).toNat (⟨#[]⟩ : ByteArray)))) fun (v6 : List ByteArray) => Option.bind (gJoin v6 a1) fun r10 => some r10) else none
theorem ijoinInts_c {a0 : List Int} {a1 : ByteArray} {r : ByteArray} (H : ijoinInts a0 a1 = some r) : Fn Tryd.prog 49 [aL (a0.map eI), aS a1] [.c (.d (.str r))] := by
  refine fn_in Tryd.func49 rfl (by kernel_rfl) Tryd.ntmps49 rfl rfl rfl ?_
  refine wk ?_
  obtain ⟨h, H⟩ := rq H
  refine awr_n rfl (mkT (enc := eS) (za := (⟨#[]⟩ : ByteArray)) h (by rfl) rfl rfl rfl rfl) ?_
  refine wk ?_
  obtain ⟨v6, Hj, H⟩ := ob H
  refine awc_jblk ⟨[(1, tS a1), (5, .v (.c (.w 0 v6.length)))], [(0, .row 9 1 (v6.map eS) true true)], 1⟩ ?_ ?_
  · refine wk ?_
    refine awc_iter (fun (q : Int × List ByteArray) => ⟨[(1, tS a1), (5, .v (.c (.w 0 q.2.length))), (11, .v (.c (.d false (.l (a0.map eI))))), (12, tI ((a0.length : Nat) : Int)), (13, tI q.1)], [(0, .row 9 1 (q.2.map eS) true true)], 1⟩) Hj (weak_of ⟨rfl, rfl, wn rfl (by first | rfl | simp), rfl, rfl, rfl, rfl, rfl, rfl, rfl, trivial⟩ ⟨rfl, ⟨rfl, rfl⟩, trivial⟩) ?_
    rintro ⟨v1, v2⟩ o H
    try dsimp only
    refine wk ?_
    refine awc_cond rfl (fun h => ?_) (fun h => ?_)
    · have H := bt h H
      refine wk ?_
      obtain ⟨x7, hx7, H⟩ := ob H
      refine awr_n rfl (xdT (enc := eI) hx7 (fun _ => rfl) rfl rfl rfl) ?_
      refine wk ?_
      obtain ⟨r8, hr8, H⟩ := ob H
      refine awr_n rfl (ca rfl rfl rfl (iFormatInt_c hr8) trivial rfl rfl rfl rfl) ?_
      refine wk ?_
      obtain ⟨x9, hx9, H⟩ := ob H
      refine awr_n rfl (xwT hx9 (by first | rfl | simp) rfl rfl rfl) ?_
      refine wk ?_
      refine awr_step rfl (soT (enc := eS) (a' := r8) hx9 rfl rfl rfl rfl rfl rfl rfl) ?_
      refine wk ?_
      cases H
      refine iq_n ?_
      exact weak_of ⟨rfl, rfl, wn rfl (by first | rfl | simp), rfl, rfl, rfl, rfl, rfl, rfl, rfl, trivial⟩ ⟨rfl, ⟨rfl, rfl⟩, trivial⟩
    · have H := bf h H
      refine wk ?_
      cases H
      refine iq_e (fun hq => ?_)
      cases hq
      refine wk ?_
      exact weak_of ⟨rfl, rfl, wn rfl (by first | rfl | simp), rfl, trivial⟩ ⟨rfl, ⟨rfl, rfl⟩, trivial⟩
  refine wk ?_
  obtain ⟨r10, hr10, H⟩ := ob H
  refine awr_n rfl (ca rfl rfl rfl (gJoin_c hr10) ⟨by first | rfl | exact lm _, trivial⟩ rfl rfl rfl rfl) ?_
  refine wk ?_
  cases H
  exact fin_ret (.cons (.tmp rfl) .nil) rfl rfl rfl
def iTotalReserved_L1 (a0 : TAccount) : (Int × Int) → Option (Step (Int × Int) (Int))
  | (v1, v2) => bif ltB v2 ((a0.Reservations.length : Nat) : Int) then (Option.bind (ix a0.Reservations v2) fun x5 => some (.next (WR (v1 + x5.Amount), WR (v2 + 1)))) else (some (.done v1))
def iTotalReserved (a0 : TAccount) : Option Int :=
  Option.bind (iter (iTotalReserved_L1 a0) FU (0, 0)) fun (v4 : Int) => some v4
theorem iTotalReserved_c {a0 : TAccount} {r : Int} (H : iTotalReserved a0 = some r) : Fn Tryd.prog 50 [.agg (eTAccount a0)] [.c (.d (.i .i64 r))] := by
  refine fn_in Tryd.func50 rfl (by kernel_rfl) Tryd.ntmps50 rfl rfl rfl ?_
  refine wk ?_
  obtain ⟨v4, Hj, H⟩ := ob H
  refine awc_jblk ⟨[(3, tI v4)], [], 0⟩ ?_ ?_
  · refine wk ?_
    refine awc_iter (fun (q : Int × Int) => ⟨[(3, tI q.1), (7, .v (.c (.d false (.l (a0.Reservations.map eTReservation))))), (8, tI ((a0.Reservations.length : Nat) : Int)), (9, tI q.2)], [], 0⟩) Hj (weak_of ⟨rfl, rfl, rfl, rfl, rfl, rfl, rfl, rfl, trivial⟩ trivial) ?_
    rintro ⟨v1, v2⟩ o H
    try dsimp only
    refine wk ?_
    refine awc_cond rfl (fun h => ?_) (fun h => ?_)
    · have H := bt h H
      refine wk ?_
      obtain ⟨x5, hx5, H⟩ := ob H
      refine awr_n rfl (xdT (enc := eTReservation) hx5 (fun _ => rfl) rfl rfl rfl) ?_
      refine wk ?_
      cases H
      refine iq_n ?_
      exact weak_of ⟨rfl, rfl, rfl, rfl, rfl, rfl, rfl, rfl, trivial⟩ trivial
    · have H := bf h H
      refine wk ?_
      cases H
      refine iq_e (fun hq => ?_)
      cases hq
      refine wk ?_
      exact weak_of ⟨rfl, rfl, trivial⟩ trivial
  refine wk ?_
  cases H
  exact fin_ret (.cons (.tmp rfl) .nil) rfl rfl rfl
def iFormatAccount (a0 : TAccount) : Option ByteArray :=
  Option.bind (iTotalReserved a0) fun r1 => Option.bind (ijoinInts [a0.Available, r1, a0.Spent] ⟨#[43]⟩) fun r2 => bif saOk r2 (⟨#[61]⟩ : ByteArray) then (Option.bind (iFormatInt a0.Total) fun r3 => bif saOk (r2 ++ (⟨#[61]⟩ : ByteArray)) r3 then (some ((r2 ++ (⟨#[61]⟩ : ByteArray)) ++ r3)) else none) else none
theorem iFormatAccount_c {a0 : TAccount} {r : ByteArray} (H : iFormatAccount a0 = some r) : Fn Tryd.prog 17 [.agg (eTAccount a0)] [.c (.d (.str r))] := by
  refine fn_in Tryd.func17 rfl (by kernel_rfl) Tryd.ntmps17 rfl rfl rfl ?_
  refine wkd ?_
  obtain ⟨r1, hr1, H⟩ := ob H
  refine dr_n rfl (ca rfl rfl rfl (iTotalReserved_c hr1) trivial rfl rfl rfl rfl) ?_
  refine wkd ?_
  obtain ⟨r2, hr2, H⟩ := ob H
  refine dr_n rfl (ca rfl rfl rfl (ijoinInts_c hr2) ⟨by first | rfl | exact lm _, trivial⟩ rfl rfl rfl rfl) ?_
  refine wkd ?_
  obtain ⟨h, H⟩ := rq H
  refine dr_n rfl (saT h rfl rfl rfl) ?_
  refine wkd ?_
  obtain ⟨r3, hr3, H⟩ := ob H
  refine dr_n rfl (ca rfl rfl rfl (iFormatInt_c hr3) trivial rfl rfl rfl rfl) ?_
  refine wkd ?_
  obtain ⟨h, H⟩ := rq H
  refine dr_n rfl (saT h rfl rfl rfl) ?_
  refine wkd ?_
  cases H
  exact fin_ret (.cons (.tmp rfl) .nil) rfl rfl rfl
def isignalName (a0 : Int) : Option ByteArray :=
  bif eqB a0 1 then (some ⟨#[97, 116, 116, 97, 99, 104]⟩) else (bif eqB a0 2 then (some ⟨#[99, 104, 97, 108, 108, 101, 110, 103, 101]⟩) else (bif eqB a0 3 then (some ⟨#[114, 101, 115, 112, 111, 110, 115, 101]⟩) else (bif eqB a0 4 then (some ⟨#[97, 99, 99, 101, 112, 116]⟩) else (bif eqB a0 5 then (some ⟨#[112, 97, 116, 104, 45, 117, 112, 100, 97, 116, 101]⟩) else (bif eqB a0 6 then (some ⟨#[112, 97, 116, 104, 45, 97, 99, 107]⟩) else (bif eqB a0 7 then (some ⟨#[112, 97, 103, 101]⟩) else (bif eqB a0 8 then (some ⟨#[100, 97, 116, 97, 45, 97, 99, 107]⟩) else (some ⟨#[63]⟩))))))))
theorem isignalName_c {a0 : Int} {r : ByteArray} (H : isignalName a0 = some r) : Fn Tryd.prog 107 [aI a0] [.c (.d (.str r))] := by
  refine fn_in Tryd.func107 rfl (by kernel_rfl) Tryd.ntmps107 rfl rfl rfl ?_
  refine wk ?_
  refine awc_cond rfl (fun h => ?_) (fun h => ?_)
  · have H := bt h H
    refine wk ?_
    cases H
    exact fin_ret (.cons (.tmp rfl) .nil) rfl rfl rfl
  · have H := bf h H
    refine wk ?_
    refine awc_cond rfl (fun h => ?_) (fun h => ?_)
    · have H := bt h H
      refine wk ?_
      cases H
      exact fin_ret (.cons (.tmp rfl) .nil) rfl rfl rfl
    · have H := bf h H
      refine wk ?_
      refine awc_cond rfl (fun h => ?_) (fun h => ?_)
      · have H := bt h H
        refine wk ?_
        cases H
        exact fin_ret (.cons (.tmp rfl) .nil) rfl rfl rfl
      · have H := bf h H
        refine wk ?_
        refine awc_cond rfl (fun h => ?_) (fun h => ?_)
        · have H := bt h H
          refine wk ?_
          cases H
          exact fin_ret (.cons (.tmp rfl) .nil) rfl rfl rfl
        · have H := bf h H
          refine wk ?_
          refine awc_cond rfl (fun h => ?_) (fun h => ?_)
          · have H := bt h H
            refine wk ?_
            cases H
            exact fin_ret (.cons (.tmp rfl) .nil) rfl rfl rfl
          · have H := bf h H
            refine wk ?_
            refine awc_cond rfl (fun h => ?_) (fun h => ?_)
            · have H := bt h H
              refine wk ?_
              cases H
              exact fin_ret (.cons (.tmp rfl) .nil) rfl rfl rfl
            · have H := bf h H
              refine wk ?_
              refine awc_cond rfl (fun h => ?_) (fun h => ?_)
              · have H := bt h H
                refine wk ?_
                cases H
                exact fin_ret (.cons (.tmp rfl) .nil) rfl rfl rfl
              · have H := bf h H
                refine wk ?_
                refine awc_cond rfl (fun h => ?_) (fun h => ?_)
                · have H := bt h H
                  refine wk ?_
                  cases H
                  exact fin_ret (.cons (.tmp rfl) .nil) rfl rfl rfl
                · have H := bf h H
                  refine wk ?_
                  cases H
                  exact fin_ret (.cons (.tmp rfl) .nil) rfl rfl rfl
def iFormatSignal (a0 : TSignal) : Option ByteArray :=
  Option.bind (isignalName a0.Kind) fun r1 => bif saOk r1 (⟨#[64]⟩ : ByteArray) then (Option.bind (iFormatInt a0.Cell) fun r2 => bif saOk (r1 ++ (⟨#[64]⟩ : ByteArray)) r2 then (bif saOk ((r1 ++ (⟨#[64]⟩ : ByteArray)) ++ r2) (⟨#[58]⟩ : ByteArray) then (Option.bind (iFormatInt a0.Generation) fun r3 => bif saOk (((r1 ++ (⟨#[64]⟩ : ByteArray)) ++ r2) ++ (⟨#[58]⟩ : ByteArray)) r3 then (bif saOk ((((r1 ++ (⟨#[64]⟩ : ByteArray)) ++ r2) ++ (⟨#[58]⟩ : ByteArray)) ++ r3) (⟨#[46]⟩ : ByteArray) then (Option.bind (iFormatInt a0.Epoch) fun r4 => bif saOk (((((r1 ++ (⟨#[64]⟩ : ByteArray)) ++ r2) ++ (⟨#[58]⟩ : ByteArray)) ++ r3) ++ (⟨#[46]⟩ : ByteArray)) r4 then (some ((((((r1 ++ (⟨#[64]⟩ : ByteArray)) ++ r2) ++ (⟨#[58]⟩ : ByteArray)) ++ r3) ++ (⟨#[46]⟩ : ByteArray)) ++ r4)) else none) else none) else none) else none) else none) else none
theorem iFormatSignal_c {a0 : TSignal} {r : ByteArray} (H : iFormatSignal a0 = some r) : Fn Tryd.prog 56 [.agg (eTSignal a0)] [.c (.d (.str r))] := by
  refine fn_in Tryd.func56 rfl (by kernel_rfl) Tryd.ntmps56 rfl rfl rfl ?_
  refine wkd ?_
  obtain ⟨r1, hr1, H⟩ := ob H
  refine dr_n rfl (ca rfl rfl rfl (isignalName_c hr1) trivial rfl rfl rfl rfl) ?_
  refine wkd ?_
  obtain ⟨h, H⟩ := rq H
  refine dr_n rfl (saT h rfl rfl rfl) ?_
  refine wkd ?_
  obtain ⟨r2, hr2, H⟩ := ob H
  refine dr_n rfl (ca rfl rfl rfl (iFormatInt_c hr2) trivial rfl rfl rfl rfl) ?_
  refine wkd ?_
  obtain ⟨h, H⟩ := rq H
  refine dr_n rfl (saT h rfl rfl rfl) ?_
  refine wkd ?_
  obtain ⟨h, H⟩ := rq H
  refine dr_n rfl (saT h rfl rfl rfl) ?_
  refine wkd ?_
  obtain ⟨r3, hr3, H⟩ := ob H
  refine dr_n rfl (ca rfl rfl rfl (iFormatInt_c hr3) trivial rfl rfl rfl rfl) ?_
  refine wkd ?_
  obtain ⟨h, H⟩ := rq H
  refine dr_n rfl (saT h rfl rfl rfl) ?_
  refine wkd ?_
  obtain ⟨h, H⟩ := rq H
  refine dr_n rfl (saT h rfl rfl rfl) ?_
  refine wkd ?_
  obtain ⟨r4, hr4, H⟩ := ob H
  refine dr_n rfl (ca rfl rfl rfl (iFormatInt_c hr4) trivial rfl rfl rfl rfl) ?_
  refine wkd ?_
  obtain ⟨h, H⟩ := rq H
  refine dr_n rfl (saT h rfl rfl rfl) ?_
  refine wkd ?_
  cases H
  exact fin_ret (.cons (.tmp rfl) .nil) rfl rfl rfl
def iFormatFlight (a0 : TFlight) : Option ByteArray :=
  Option.bind (iFormatInt a0.Device) fun r1 => Option.bind (bif a0.Uplink then (bif saOk r1 (⟨#[94]⟩ : ByteArray) then (some (r1 ++ (⟨#[94]⟩ : ByteArray))) else none) else (bif saOk r1 (⟨#[118]⟩ : ByteArray) then (some (r1 ++ (⟨#[118]⟩ : ByteArray))) else none)) fun (v2 : ByteArray) => bif !a0.IsRadio then (Option.bind (iFormatSignal a0.Signal) fun r3 => bif saOk v2 r3 then (some (v2 ++ r3)) else none) else (bif saOk v2 (⟨#[100, 97, 116, 97, 64]⟩ : ByteArray) then (Option.bind (iFormatInt a0.Cell) fun r4 => bif saOk (v2 ++ (⟨#[100, 97, 116, 97, 64]⟩ : ByteArray)) r4 then (bif saOk ((v2 ++ (⟨#[100, 97, 116, 97, 64]⟩ : ByteArray)) ++ r4) (⟨#[58]⟩ : ByteArray) then (Option.bind (iFormatInt a0.Radio.Message.Count) fun r5 => bif saOk (((v2 ++ (⟨#[100, 97, 116, 97, 64]⟩ : ByteArray)) ++ r4) ++ (⟨#[58]⟩ : ByteArray)) r5 then (bif saOk ((((v2 ++ (⟨#[100, 97, 116, 97, 64]⟩ : ByteArray)) ++ r4) ++ (⟨#[58]⟩ : ByteArray)) ++ r5) (⟨#[46]⟩ : ByteArray) then (Option.bind (iFormatInt a0.Radio.Epoch) fun r6 => bif saOk (((((v2 ++ (⟨#[100, 97, 116, 97, 64]⟩ : ByteArray)) ++ r4) ++ (⟨#[58]⟩ : ByteArray)) ++ r5) ++ (⟨#[46]⟩ : ByteArray)) r6 then (some ((((((v2 ++ (⟨#[100, 97, 116, 97, 64]⟩ : ByteArray)) ++ r4) ++ (⟨#[58]⟩ : ByteArray)) ++ r5) ++ (⟨#[46]⟩ : ByteArray)) ++ r6)) else none) else none) else none) else none) else none) else none)
theorem iFormatFlight_c {a0 : TFlight} {r : ByteArray} (H : iFormatFlight a0 = some r) : Fn Tryd.prog 22 [.agg (eTFlight a0)] [.c (.d (.str r))] := by
  refine fn_in Tryd.func22 rfl (by kernel_rfl) Tryd.ntmps22 rfl rfl rfl ?_
  refine wkd ?_
  obtain ⟨r1, hr1, H⟩ := ob H
  refine awr_n rfl (ca rfl rfl rfl (iFormatInt_c hr1) trivial rfl rfl rfl rfl) ?_
  refine wkd ?_
  obtain ⟨v2, Hj, H⟩ := ob H
  refine awc_join ⟨[(1, .v (.c (.p 0 0))), (3, tS v2)], [(0, .var 60 [.d false (.i .i64 a0.Device), .d false (.b a0.Uplink), .d false (.b a0.IsRadio), .d false (.i .i64 a0.Cell), .d false (.i .i64 a0.Signal.Kind), .d false (.i .i64 a0.Signal.Cell), .d false (.i .i64 a0.Signal.Generation), .d false (.i .i64 a0.Signal.Epoch), .d false (.i .i64 a0.Signal.Number), .d false (.i .i64 a0.Signal.Vector.Rand), .d false (.i .i64 a0.Signal.Vector.Autn), .d false (.i .i64 a0.Signal.Vector.MAC), .d false (.i .i64 a0.Signal.Vector.Res), .d false (.i .i64 a0.Signal.Vector.Key), .d false (.i .i64 a0.Signal.MAC), .d false (.i .i64 a0.Radio.Generation), .d false (.i .i64 a0.Radio.Epoch), .d false (.i .i64 a0.Radio.Message.Direction), .d false (.i .i64 a0.Radio.Message.Count), .d false (.l (a0.Radio.Message.Data.map eU8)), .d false (.i .i64 a0.Radio.Message.MAC)])], 1⟩ ?_ ?_
  · have H := Hj
    refine wkd ?_
    refine awc_cond rfl (fun h => ?_) (fun h => ?_)
    · have H := bt h H
      refine wkd ?_
      obtain ⟨h, H⟩ := rq H
      refine awr_n rfl (saT h rfl rfl rfl) ?_
      refine wkd ?_
      cases H
      exact weak_of ⟨rfl, rfl, rfl, rfl, trivial⟩ ⟨rfl, ⟨rfl, rfl⟩, trivial⟩
    · have H := bf h H
      refine wkd ?_
      obtain ⟨h, H⟩ := rq H
      refine awr_n rfl (saT h rfl rfl rfl) ?_
      refine wkd ?_
      cases H
      exact weak_of ⟨rfl, rfl, rfl, rfl, trivial⟩ ⟨rfl, ⟨rfl, rfl⟩, trivial⟩
  refine wkd ?_
  refine awc_cond rfl (fun h => ?_) (fun h => ?_)
  · have H := bt h H
    refine wkd ?_
    obtain ⟨r3, hr3, H⟩ := ob H
    refine awr_n rfl (ca rfl rfl rfl (iFormatSignal_c hr3) trivial rfl rfl rfl rfl) ?_
    refine wkd ?_
    obtain ⟨h, H⟩ := rq H
    refine awr_n rfl (saT h rfl rfl rfl) ?_
    refine wkd ?_
    cases H
    exact fin_ret (.cons (.tmp rfl) .nil) rfl rfl rfl
  · have H := bf h H
    refine wkd ?_
    obtain ⟨h, H⟩ := rq H
    refine dr_n rfl (saT h rfl rfl rfl) ?_
    refine wkd ?_
    obtain ⟨r4, hr4, H⟩ := ob H
    refine dr_n rfl (ca rfl rfl rfl (iFormatInt_c hr4) trivial rfl rfl rfl rfl) ?_
    refine wkd ?_
    obtain ⟨h, H⟩ := rq H
    refine dr_n rfl (saT h rfl rfl rfl) ?_
    refine wkd ?_
    obtain ⟨h, H⟩ := rq H
    refine dr_n rfl (saT h rfl rfl rfl) ?_
    refine wkd ?_
    obtain ⟨r5, hr5, H⟩ := ob H
    refine dr_n rfl (ca rfl rfl rfl (iFormatInt_c hr5) trivial rfl rfl rfl rfl) ?_
    refine wkd ?_
    obtain ⟨h, H⟩ := rq H
    refine dr_n rfl (saT h rfl rfl rfl) ?_
    refine wkd ?_
    obtain ⟨h, H⟩ := rq H
    refine dr_n rfl (saT h rfl rfl rfl) ?_
    refine wkd ?_
    obtain ⟨r6, hr6, H⟩ := ob H
    refine dr_n rfl (ca rfl rfl rfl (iFormatInt_c hr6) trivial rfl rfl rfl rfl) ?_
    refine wkd ?_
    obtain ⟨h, H⟩ := rq H
    refine dr_n rfl (saT h rfl rfl rfl) ?_
    refine wkd ?_
    cases H
    exact fin_ret (.cons (.tmp rfl) .nil) rfl rfl rfl
def iInRange (a0 : Int) (a1 : Int) (a2 : Int) : Option Bool :=
  Option.bind (bif leB a1 a0 then (some (leB a0 a2)) else (some false)) fun (v1 : Bool) => some v1
theorem iInRange_c {a0 : Int} {a1 : Int} {a2 : Int} {r : Bool} (H : iInRange a0 a1 a2 = some r) : Fn Tryd.prog 74 [aI a0, aI a1, aI a2] [.c (.d (.b r))] := by
  refine fn_in Tryd.func74 rfl (by kernel_rfl) Tryd.ntmps74 rfl rfl rfl ?_
  refine wk ?_
  obtain ⟨v1, Hj, H⟩ := ob H
  refine awr_join ⟨[(6, tB v1)], [], 0⟩ ?_ ?_
  · have H := Hj
    refine wk ?_
    refine g2 rfl rfl rfl (fun h => ?_) (fun h => ?_)
    · have H := bt h H
      refine wk ?_
      cases H
      exact weak_of ⟨rfl, rfl, trivial⟩ trivial
    · have H := bf h H
      refine wk ?_
      cases H
      exact weak_of ⟨rfl, rfl, trivial⟩ trivial
  refine wk ?_
  cases H
  exact fin_ret (.cons (.tmp rfl) .nil) rfl rfl rfl
def iIsValidSubscriberID (a0 : TSubscriberID) : Option Bool :=
  Option.bind (iInRange a0.Network 0 3) fun r1 => Option.bind (bif r1 then (Option.bind (iInRange a0.Number 0 99) fun r3 => some r3) else (some false)) fun (v2 : Bool) => some v2
theorem iIsValidSubscriberID_c {a0 : TSubscriberID} {r : Bool} (H : iIsValidSubscriberID a0 = some r) : Fn Tryd.prog 113 [.agg (eTSubscriberID a0)] [.c (.d (.b r))] := by
  refine fn_in Tryd.func113 rfl (by kernel_rfl) Tryd.ntmps113 rfl rfl rfl ?_
  refine wk ?_
  obtain ⟨r1, hr1, H⟩ := ob H
  refine awr_n rfl (ca rfl rfl rfl (iInRange_c hr1) trivial rfl rfl rfl rfl) ?_
  refine wk ?_
  obtain ⟨v2, Hj, H⟩ := ob H
  refine awr_join ⟨[(2, tB v2)], [], 0⟩ ?_ ?_
  · have H := Hj
    refine wk ?_
    refine g2 rfl rfl rfl (fun h => ?_) (fun h => ?_)
    · have H := bt h H
      refine wk ?_
      obtain ⟨r3, hr3, H⟩ := ob H
      refine awr_ng rfl rfl rfl rfl (ca rfl rfl rfl (iInRange_c hr3) trivial rfl rfl rfl rfl) ?_
      refine wk ?_
      cases H
      exact weak_of ⟨rfl, rfl, trivial⟩ trivial
    · have H := bf h H
      refine wk ?_
      cases H
      exact weak_of ⟨rfl, rfl, trivial⟩ trivial
  refine wk ?_
  cases H
  exact fin_ret (.cons (.tmp rfl) .nil) rfl rfl rfl
def iFormatSubscriberID (a0 : TSubscriberID) : Option ByteArray :=
  Option.bind (iIsValidSubscriberID a0) fun r1 => bif !r1 then (some ⟨#[]⟩) else (Option.bind (iFormatInt a0.Network) fun r2 => bif saOk r2 (⟨#[45]⟩ : ByteArray) then (Option.bind (iFormatInt a0.Number) fun r3 => bif saOk (r2 ++ (⟨#[45]⟩ : ByteArray)) r3 then (some ((r2 ++ (⟨#[45]⟩ : ByteArray)) ++ r3)) else none) else none)
theorem iFormatSubscriberID_c {a0 : TSubscriberID} {r : ByteArray} (H : iFormatSubscriberID a0 = some r) : Fn Tryd.prog 64 [.agg (eTSubscriberID a0)] [.c (.d (.str r))] := by
  refine fn_in Tryd.func64 rfl (by kernel_rfl) Tryd.ntmps64 rfl rfl rfl ?_
  refine wkd ?_
  obtain ⟨r1, hr1, H⟩ := ob H
  refine awr_n rfl (ca rfl rfl rfl (iIsValidSubscriberID_c hr1) trivial rfl rfl rfl rfl) ?_
  refine wkd ?_
  refine awc_cond rfl (fun h => ?_) (fun h => ?_)
  · have H := bt h H
    refine wkd ?_
    cases H
    exact fin_ret (.cons (.tmp rfl) .nil) rfl rfl rfl
  · have H := bf h H
    refine wkd ?_
    obtain ⟨r2, hr2, H⟩ := ob H
    refine dr_n rfl (ca rfl rfl rfl (iFormatInt_c hr2) trivial rfl rfl rfl rfl) ?_
    refine wkd ?_
    obtain ⟨h, H⟩ := rq H
    refine dr_n rfl (saT h rfl rfl rfl) ?_
    refine wkd ?_
    obtain ⟨r3, hr3, H⟩ := ob H
    refine dr_n rfl (ca rfl rfl rfl (iFormatInt_c hr3) trivial rfl rfl rfl rfl) ?_
    refine wkd ?_
    obtain ⟨h, H⟩ := rq H
    refine dr_n rfl (saT h rfl rfl rfl) ?_
    refine wkd ?_
    cases H
    exact fin_ret (.cons (.tmp rfl) .nil) rfl rfl rfl
def ideviceStateName (a0 : Int) : Option ByteArray :=
  bif eqB a0 0 then (some ⟨#[111, 102, 102]⟩) else (bif eqB a0 1 then (some ⟨#[97, 116, 116, 97, 99, 104, 105, 110, 103]⟩) else (bif eqB a0 2 then (some ⟨#[99, 111, 110, 110, 101, 99, 116, 101, 100]⟩) else (bif eqB a0 3 then (some ⟨#[105, 100, 108, 101]⟩) else (some ⟨#[63]⟩))))
theorem ideviceStateName_c {a0 : Int} {r : ByteArray} (H : ideviceStateName a0 = some r) : Fn Tryd.prog 65 [aI a0] [.c (.d (.str r))] := by
  refine fn_in Tryd.func65 rfl (by kernel_rfl) Tryd.ntmps65 rfl rfl rfl ?_
  refine wk ?_
  refine awc_cond rfl (fun h => ?_) (fun h => ?_)
  · have H := bt h H
    refine wk ?_
    cases H
    exact fin_ret (.cons (.tmp rfl) .nil) rfl rfl rfl
  · have H := bf h H
    refine wk ?_
    refine awc_cond rfl (fun h => ?_) (fun h => ?_)
    · have H := bt h H
      refine wk ?_
      cases H
      exact fin_ret (.cons (.tmp rfl) .nil) rfl rfl rfl
    · have H := bf h H
      refine wk ?_
      refine awc_cond rfl (fun h => ?_) (fun h => ?_)
      · have H := bt h H
        refine wk ?_
        cases H
        exact fin_ret (.cons (.tmp rfl) .nil) rfl rfl rfl
      · have H := bf h H
        refine wk ?_
        refine awc_cond rfl (fun h => ?_) (fun h => ?_)
        · have H := bt h H
          refine wk ?_
          cases H
          exact fin_ret (.cons (.tmp rfl) .nil) rfl rfl rfl
        · have H := bf h H
          refine wk ?_
          cases H
          exact fin_ret (.cons (.tmp rfl) .nil) rfl rfl rfl
def iFormatDevice (a0 : TDevice) : Option ByteArray :=
  Option.bind (iFormatSubscriberID a0.Card.ID) fun r1 => bif saOk r1 (⟨#[32]⟩ : ByteArray) then (Option.bind (ideviceStateName a0.State) fun r2 => bif saOk (r1 ++ (⟨#[32]⟩ : ByteArray)) r2 then (bif saOk ((r1 ++ (⟨#[32]⟩ : ByteArray)) ++ r2) (⟨#[64]⟩ : ByteArray) then (Option.bind (iFormatInt a0.Cell) fun r3 => bif saOk (((r1 ++ (⟨#[32]⟩ : ByteArray)) ++ r2) ++ (⟨#[64]⟩ : ByteArray)) r3 then (bif saOk ((((r1 ++ (⟨#[32]⟩ : ByteArray)) ++ r2) ++ (⟨#[64]⟩ : ByteArray)) ++ r3) (⟨#[46]⟩ : ByteArray) then (Option.bind (iFormatInt a0.Epoch) fun r4 => bif saOk (((((r1 ++ (⟨#[32]⟩ : ByteArray)) ++ r2) ++ (⟨#[64]⟩ : ByteArray)) ++ r3) ++ (⟨#[46]⟩ : ByteArray)) r4 then (bif saOk ((((((r1 ++ (⟨#[32]⟩ : ByteArray)) ++ r2) ++ (⟨#[64]⟩ : ByteArray)) ++ r3) ++ (⟨#[46]⟩ : ByteArray)) ++ r4) (⟨#[32]⟩ : ByteArray) then (Option.bind (iFormatInt ((a0.Receiver.Delivered.length : Nat) : Int)) fun r5 => bif saOk (((((((r1 ++ (⟨#[32]⟩ : ByteArray)) ++ r2) ++ (⟨#[64]⟩ : ByteArray)) ++ r3) ++ (⟨#[46]⟩ : ByteArray)) ++ r4) ++ (⟨#[32]⟩ : ByteArray)) r5 then (some ((((((((r1 ++ (⟨#[32]⟩ : ByteArray)) ++ r2) ++ (⟨#[64]⟩ : ByteArray)) ++ r3) ++ (⟨#[46]⟩ : ByteArray)) ++ r4) ++ (⟨#[32]⟩ : ByteArray)) ++ r5)) else none) else none) else none) else none) else none) else none) else none) else none
theorem iFormatDevice_c {a0 : TDevice} {r : ByteArray} (H : iFormatDevice a0 = some r) : Fn Tryd.prog 27 [.agg (eTDevice a0)] [.c (.d (.str r))] := by
  refine fn_in Tryd.func27 rfl (by kernel_rfl) Tryd.ntmps27 rfl rfl rfl ?_
  refine wkd ?_
  obtain ⟨r1, hr1, H⟩ := ob H
  refine dr_n rfl (ca rfl rfl rfl (iFormatSubscriberID_c hr1) trivial rfl rfl rfl rfl) ?_
  refine wkd ?_
  obtain ⟨h, H⟩ := rq H
  refine dr_n rfl (saT h rfl rfl rfl) ?_
  refine wkd ?_
  obtain ⟨r2, hr2, H⟩ := ob H
  refine dr_n rfl (ca rfl rfl rfl (ideviceStateName_c hr2) trivial rfl rfl rfl rfl) ?_
  refine wkd ?_
  obtain ⟨h, H⟩ := rq H
  refine dr_n rfl (saT h rfl rfl rfl) ?_
  refine wkd ?_
  obtain ⟨h, H⟩ := rq H
  refine dr_n rfl (saT h rfl rfl rfl) ?_
  refine wkd ?_
  obtain ⟨r3, hr3, H⟩ := ob H
  refine dr_n rfl (ca rfl rfl rfl (iFormatInt_c hr3) trivial rfl rfl rfl rfl) ?_
  refine wkd ?_
  obtain ⟨h, H⟩ := rq H
  refine dr_n rfl (saT h rfl rfl rfl) ?_
  refine wkd ?_
  obtain ⟨h, H⟩ := rq H
  refine dr_n rfl (saT h rfl rfl rfl) ?_
  refine wkd ?_
  obtain ⟨r4, hr4, H⟩ := ob H
  refine dr_n rfl (ca rfl rfl rfl (iFormatInt_c hr4) trivial rfl rfl rfl rfl) ?_
  refine wkd ?_
  obtain ⟨h, H⟩ := rq H
  refine dr_n rfl (saT h rfl rfl rfl) ?_
  refine wkd ?_
  obtain ⟨h, H⟩ := rq H
  refine dr_n rfl (saT h rfl rfl rfl) ?_
  refine wkd ?_
  obtain ⟨r5, hr5, H⟩ := ob H
  refine dr_n rfl (ca rfl rfl rfl (iFormatInt_c hr5) trivial rfl rfl rfl rfl) ?_
  refine wkd ?_
  obtain ⟨h, H⟩ := rq H
  refine dr_n rfl (saT h rfl rfl rfl) ?_
  refine wkd ?_
  cases H
  exact fin_ret (.cons (.tmp rfl) .nil) rfl rfl rfl
def iAcknowledgedPackets (a0 : TSession) : Option Int :=
  some (WR ((WR (a0.Window.Next - 1)) - ((a0.Window.Unacked.length : Nat) : Int)))
theorem iAcknowledgedPackets_c {a0 : TSession} {r : Int} (H : iAcknowledgedPackets a0 = some r) : Fn Tryd.prog 90 [.agg (eTSession a0)] [.c (.d (.i .i64 r))] := by
  refine fn_in Tryd.func90 rfl (by kernel_rfl) Tryd.ntmps90 rfl rfl rfl ?_
  refine wk ?_
  cases H
  exact fin_ret (.cons (.tmp rfl) .nil) rfl rfl rfl
def isessionStateName (a0 : Int) : Option ByteArray :=
  bif eqB a0 0 then (some ⟨#[100, 101, 116, 97, 99, 104, 101, 100]⟩) else (bif eqB a0 1 then (some ⟨#[97, 99, 116, 105, 118, 101]⟩) else (some ⟨#[63]⟩))
theorem isessionStateName_c {a0 : Int} {r : ByteArray} (H : isessionStateName a0 = some r) : Fn Tryd.prog 91 [aI a0] [.c (.d (.str r))] := by
  refine fn_in Tryd.func91 rfl (by kernel_rfl) Tryd.ntmps91 rfl rfl rfl ?_
  refine wk ?_
  refine awc_cond rfl (fun h => ?_) (fun h => ?_)
  · have H := bt h H
    refine wk ?_
    cases H
    exact fin_ret (.cons (.tmp rfl) .nil) rfl rfl rfl
  · have H := bf h H
    refine wk ?_
    refine awc_cond rfl (fun h => ?_) (fun h => ?_)
    · have H := bt h H
      refine wk ?_
      cases H
      exact fin_ret (.cons (.tmp rfl) .nil) rfl rfl rfl
    · have H := bf h H
      refine wk ?_
      cases H
      exact fin_ret (.cons (.tmp rfl) .nil) rfl rfl rfl
def iFormatSession (a0 : TSession) : Option ByteArray :=
  Option.bind (iAcknowledgedPackets a0) fun r1 => Option.bind (isessionStateName a0.State) fun r2 => bif saOk r2 (⟨#[64]⟩ : ByteArray) then (Option.bind (iFormatInt a0.Cell) fun r3 => bif saOk (r2 ++ (⟨#[64]⟩ : ByteArray)) r3 then (bif saOk ((r2 ++ (⟨#[64]⟩ : ByteArray)) ++ r3) (⟨#[46]⟩ : ByteArray) then (Option.bind (iFormatInt a0.Epoch) fun r4 => bif saOk (((r2 ++ (⟨#[64]⟩ : ByteArray)) ++ r3) ++ (⟨#[46]⟩ : ByteArray)) r4 then (bif saOk ((((r2 ++ (⟨#[64]⟩ : ByteArray)) ++ r3) ++ (⟨#[46]⟩ : ByteArray)) ++ r4) (⟨#[32]⟩ : ByteArray) then (Option.bind (ijoinInts [r1, WR (a0.Window.Next - 1), ((a0.Submitted.length : Nat) : Int)] ⟨#[47]⟩) fun r5 => bif saOk (((((r2 ++ (⟨#[64]⟩ : ByteArray)) ++ r3) ++ (⟨#[46]⟩ : ByteArray)) ++ r4) ++ (⟨#[32]⟩ : ByteArray)) r5 then (some ((((((r2 ++ (⟨#[64]⟩ : ByteArray)) ++ r3) ++ (⟨#[46]⟩ : ByteArray)) ++ r4) ++ (⟨#[32]⟩ : ByteArray)) ++ r5)) else none) else none) else none) else none) else none) else none
theorem iFormatSession_c {a0 : TSession} {r : ByteArray} (H : iFormatSession a0 = some r) : Fn Tryd.prog 39 [.agg (eTSession a0)] [.c (.d (.str r))] := by
  refine fn_in Tryd.func39 rfl (by kernel_rfl) Tryd.ntmps39 rfl rfl rfl ?_
  refine wkd ?_
  obtain ⟨r1, hr1, H⟩ := ob H
  refine dr_n rfl (ca rfl rfl rfl (iAcknowledgedPackets_c hr1) trivial rfl rfl rfl rfl) ?_
  refine wkd ?_
  obtain ⟨r2, hr2, H⟩ := ob H
  refine dr_n rfl (ca rfl rfl rfl (isessionStateName_c hr2) trivial rfl rfl rfl rfl) ?_
  refine wkd ?_
  obtain ⟨h, H⟩ := rq H
  refine dr_n rfl (saT h rfl rfl rfl) ?_
  refine wkd ?_
  obtain ⟨r3, hr3, H⟩ := ob H
  refine dr_n rfl (ca rfl rfl rfl (iFormatInt_c hr3) trivial rfl rfl rfl rfl) ?_
  refine wkd ?_
  obtain ⟨h, H⟩ := rq H
  refine dr_n rfl (saT h rfl rfl rfl) ?_
  refine wkd ?_
  obtain ⟨h, H⟩ := rq H
  refine dr_n rfl (saT h rfl rfl rfl) ?_
  refine wkd ?_
  obtain ⟨r4, hr4, H⟩ := ob H
  refine dr_n rfl (ca rfl rfl rfl (iFormatInt_c hr4) trivial rfl rfl rfl rfl) ?_
  refine wkd ?_
  obtain ⟨h, H⟩ := rq H
  refine dr_n rfl (saT h rfl rfl rfl) ?_
  refine wkd ?_
  obtain ⟨h, H⟩ := rq H
  refine dr_n rfl (saT h rfl rfl rfl) ?_
  refine wkd ?_
  obtain ⟨r5, hr5, H⟩ := ob H
  refine dr_n rfl (ca rfl rfl rfl (ijoinInts_c hr5) ⟨by first | rfl | exact lm _, trivial⟩ rfl rfl rfl rfl) ?_
  refine wkd ?_
  obtain ⟨h, H⟩ := rq H
  refine dr_n rfl (saT h rfl rfl rfl) ?_
  refine wkd ?_
  cases H
  exact fin_ret (.cons (.tmp rfl) .nil) rfl rfl rfl
end Go.AM
