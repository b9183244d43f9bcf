/-
  Own text: a part of the abstract machine for this seat (Jas). No statement is proved here.
-/
import Derived.Test.YtafgglkmebkeeaaDoorJai
set_option linter.unusedVariables false
namespace Go.AM
open Go.Proofs
attribute [local irreducible] AWN NS AWO AWR AWC DR Weak iterQ
set_option maxRecDepth 100000
set_option maxHeartbeats 4000000
def sFormatInt_L1  : (ByteArray × Int) → Option (Step (ByteArray × Int) (ByteArray))
  | (v1, v2) => bif !eqB v2 0 then (Option.bind (bif ltB (Int.tmod v2 10) 0 then (some (WR (0 - (Int.tmod v2 10)))) else (some (Int.tmod v2 10))) fun (v5 : Int) => bif saOk (bsOf [IntKind.u8.wrap (WR (48 + v5))]) v1 then (some (.next ((bsOf [IntKind.u8.wrap (WR (48 + v5))]) ++ v1, WR (Int.tdiv v2 10)))) else none) else (some (.done v1))
def sFormatInt (a0 : Int) : Option ByteArray :=
  bif eqB a0 0 then (some ⟨#[48]⟩) else (Option.bind (iter (sFormatInt_L1) FU (⟨#[]⟩, a0)) fun (v4 : ByteArray) => bif ltB a0 0 then (bif saOk (⟨#[45]⟩ : ByteArray) v4 then (some ((⟨#[45]⟩ : ByteArray) ++ v4)) else none) else (some v4))
theorem sFormatInt_c {a0 : Int} {r : ByteArray} (H : sFormatInt a0 = some r) : Fn Tryd.prog 41 [aI a0] [.c (.d (.str r))] := by
  refine fn_in Tryd.func41 rfl (by kernel_rfl) Tryd.ntmps41 rfl rfl rfl ?_
  refine wk ?_
  refine awc_cond rfl (fun h => ?_) (fun h => ?_)
  · have H := bt h H
    refine wk ?_
    cases H
    exact fin_ret (.cons (.tmp rfl) .nil) rfl rfl rfl
  · have H := bf h H
    refine wk ?_
    obtain ⟨v4, Hj, H⟩ := ob H
    refine awc_jblk ⟨[(0, tI a0), (3, tS v4)], [], 0⟩ ?_ ?_
    · refine wk ?_
      refine awc_iter (fun (q : ByteArray × Int) => ⟨[(0, tI a0), (3, tS q.1), (4, tI q.2)], [], 0⟩) Hj (weak_of ⟨rfl, rfl, rfl, rfl, rfl, rfl, trivial⟩ trivial) ?_
      rintro ⟨v1, v2⟩ o H
      try dsimp only
      refine wk ?_
      refine awc_cond rfl (fun h => ?_) (fun h => ?_)
      · have H := bt h H
        refine wk ?_
        refine awr_n rfl (ir rfl rfl rfl (by decide)) ?_
        refine wk ?_
        obtain ⟨v5, Hj, H⟩ := ob H
        refine awc_join ⟨[(0, tI a0), (3, tS v1), (4, tI v2), (5, tI v5)], [], 0⟩ ?_ ?_
        · have H := Hj
          refine wk ?_
          refine awc_cond rfl (fun h => ?_) (fun h => ?_)
          · have H := bt h H
            refine wk ?_
            cases H
            exact weak_of ⟨rfl, rfl, rfl, rfl, rfl, rfl, rfl, rfl, trivial⟩ trivial
          · have H := bf h H
            refine wk ?_
            cases H
            exact weak_of ⟨rfl, rfl, rfl, rfl, rfl, rfl, rfl, rfl, trivial⟩ trivial
        refine wk ?_
        refine awr_n rfl (bt2 (xs := [IntKind.u8.wrap (WR (48 + v5))]) rfl rfl (by first | rfl | simp) rfl) ?_
        refine wk ?_
        obtain ⟨h, H⟩ := rq H
        refine awr_n rfl (saT h rfl rfl rfl) ?_
        refine wk ?_
        refine awr_n rfl (iq rfl rfl rfl (by decide)) ?_
        refine wk ?_
        cases H
        refine iq_n ?_
        exact weak_of ⟨rfl, rfl, rfl, rfl, rfl, rfl, trivial⟩ trivial
      · have H := bf h H
        refine wk ?_
        cases H
        refine iq_e (fun hq => ?_)
        cases hq
        refine wk ?_
        exact weak_of ⟨rfl, rfl, rfl, rfl, trivial⟩ trivial
    refine wk ?_
    refine awc_cond rfl (fun h => ?_) (fun h => ?_)
    · have H := bt h H
      refine wk ?_
      obtain ⟨h, H⟩ := rq H
      refine awr_n rfl (saT h rfl rfl rfl) ?_
      refine wk ?_
      cases H
      exact fin_ret (.cons (.tmp rfl) .nil) rfl rfl rfl
    · have H := bf h H
      refine wk ?_
      cases H
      exact fin_ret (.cons (.tmp rfl) .nil) rfl rfl rfl
def sFormatStatement_L1 (a0 : List TStatementLine) : (ByteArray × Int) → Option (Step (ByteArray × Int) (ByteArray))
  | (v1, v2) => bif ltB v2 ((a0.length : Nat) : Int) then (Option.bind (bif ltB 0 v2 then (bif saOk v1 (⟨#[32]⟩ : ByteArray) then (some (v1 ++ (⟨#[32]⟩ : ByteArray))) else none) else (some v1)) fun (v11 : ByteArray) => Option.bind (ix a0 v2) fun x12 => Option.bind (sFormatInt x12.Payer) fun r13 => bif saOk v11 r13 then (bif saOk (v11 ++ r13) (⟨#[62]⟩ : ByteArray) then (Option.bind (ix a0 v2) fun x14 => Option.bind (sFormatInt x14.Payee) fun r15 => bif saOk ((v11 ++ r13) ++ (⟨#[62]⟩ : ByteArray)) r15 then (bif saOk (((v11 ++ r13) ++ (⟨#[62]⟩ : ByteArray)) ++ r15) (⟨#[58]⟩ : ByteArray) then (Option.bind (ix a0 v2) fun x16 => Option.bind (sFormatInt x16.Amount) fun r17 => bif saOk ((((v11 ++ r13) ++ (⟨#[62]⟩ : ByteArray)) ++ r15) ++ (⟨#[58]⟩ : ByteArray)) r17 then (some (.next (((((v11 ++ r13) ++ (⟨#[62]⟩ : ByteArray)) ++ r15) ++ (⟨#[58]⟩ : ByteArray)) ++ r17, WR (v2 + 1)))) else none) else none) else none) else none) else none) else (some (.done v1))
def sFormatStatement (a0 : List TStatementLine) : Option ByteArray :=
  Option.bind (iter (sFormatStatement_L1 a0) FU (⟨#[]⟩, 0)) fun (v10 : ByteArray) => bif eqB ((a0.length : Nat) : Int) 0 then (some ⟨#[45]⟩) else (some v10)
theorem sFormatStatement_c {a0 : List TStatementLine} {r : ByteArray} (H : sFormatStatement a0 = some r) : Fn Tryd.prog 10 [aL (a0.map eTStatementLine)] [.c (.d (.str r))] := by
  refine fn_in Tryd.func10 rfl (by kernel_rfl) Tryd.ntmps10 rfl rfl rfl ?_
  refine wkd ?_
  obtain ⟨v10, Hj, H⟩ := ob H
  refine awc_jblk ⟨[(0, .v (.c (.d false (.l (a0.map eTStatementLine))))), (3, tS v10)], [], 0⟩ ?_ ?_
  · refine wkd ?_
    refine awc_iter (fun (q : ByteArray × Int) => ⟨[(0, .v (.c (.d false (.l (a0.map eTStatementLine))))), (3, tS q.1), (4, tI q.2)], [], 0⟩) Hj (weak_of ⟨rfl, rfl, rfl, rfl, rfl, rfl, trivial⟩ trivial) ?_
    rintro ⟨v1, v2⟩ o H
    try dsimp only
    refine wkd ?_
    refine awc_cond rfl (fun h => ?_) (fun h => ?_)
    · have H := bt h H
      refine wkd ?_
      obtain ⟨v11, Hj, H⟩ := ob H
      refine awc_join ⟨[(0, .v (.c (.d false (.l (a0.map eTStatementLine))))), (3, tS v11), (4, tI v2)], [], 0⟩ ?_ ?_
      · have H := Hj
        refine wkd ?_
        refine awc_cond rfl (fun h => ?_) (fun h => ?_)
        · have H := bt h H
          refine wkd ?_
          obtain ⟨h, H⟩ := rq H
          refine awr_n rfl (saT h rfl rfl rfl) ?_
          refine wkd ?_
          cases H
          exact weak_of ⟨rfl, rfl, rfl, rfl, rfl, rfl, trivial⟩ trivial
        · have H := bf h H
          refine wkd ?_
          cases H
          exact weak_of ⟨rfl, rfl, rfl, rfl, rfl, rfl, trivial⟩ trivial
      refine wkd ?_
      obtain ⟨x12, hx12, H⟩ := ob H
      refine dr_n rfl (xdT (enc := eTStatementLine) hx12 (fun _ => rfl) rfl rfl rfl) ?_
      refine wkd ?_
      obtain ⟨r13, hr13, H⟩ := ob H
      refine dr_n rfl (ca rfl rfl rfl (sFormatInt_c hr13) trivial rfl rfl rfl rfl) ?_
      refine wkd ?_
      obtain ⟨h, H⟩ := rq H
      refine dr_n rfl (saT h rfl rfl rfl) ?_
      refine wkd ?_
      obtain ⟨h, H⟩ := rq H
      refine dr_n rfl (saT h rfl rfl rfl) ?_
      refine wkd ?_
      obtain ⟨x14, hx14, H⟩ := ob H
      refine dr_n rfl (xdT (enc := eTStatementLine) hx14 (fun _ => rfl) rfl rfl rfl) ?_
      refine wkd ?_
      obtain ⟨r15, hr15, H⟩ := ob H
      refine dr_n rfl (ca rfl rfl rfl (sFormatInt_c hr15) trivial rfl rfl rfl rfl) ?_
      refine wkd ?_
      obtain ⟨h, H⟩ := rq H
      refine dr_n rfl (saT h rfl rfl rfl) ?_
      refine wkd ?_
      obtain ⟨h, H⟩ := rq H
      refine dr_n rfl (saT h rfl rfl rfl) ?_
      refine wkd ?_
      obtain ⟨x16, hx16, H⟩ := ob H
      refine dr_n rfl (xdT (enc := eTStatementLine) hx16 (fun _ => rfl) rfl rfl rfl) ?_
      refine wkd ?_
      obtain ⟨r17, hr17, H⟩ := ob H
      refine dr_n rfl (ca rfl rfl rfl (sFormatInt_c hr17) trivial rfl rfl rfl rfl) ?_
      refine wkd ?_
      obtain ⟨h, H⟩ := rq H
      refine dr_n rfl (saT h rfl rfl rfl) ?_
      refine wkd ?_
      cases H
      refine iq_n ?_
      exact weak_of ⟨rfl, rfl, rfl, rfl, rfl, rfl, trivial⟩ trivial
    · have H := bf h H
      refine wkd ?_
      cases H
      refine iq_e (fun hq => ?_)
      cases hq
      refine wkd ?_
      exact weak_of ⟨rfl, rfl, rfl, rfl, trivial⟩ trivial
  refine wkd ?_
  refine awc_cond rfl (fun h => ?_) (fun h => ?_)
  · have H := bt h H
    refine wkd ?_
    cases H
    exact fin_ret (.cons (.tmp rfl) .nil) rfl rfl rfl
  · have H := bf h H
    refine wkd ?_
    cases H
    exact fin_ret (.cons (.tmp rfl) .nil) rfl rfl rfl
def sTotalReserved_L1 (a0 : TAccount) : (Int × Int) → Option (Step (Int × Int) (Int))
  | (v1, v2) => bif ltB v2 ((a0.Reservations.length : Nat) : Int) then (Option.bind (ix a0.Reservations v2) fun x5 => some (.next (WR (v1 + x5.Amount), WR (v2 + 1)))) else (some (.done v1))
def sTotalReserved (a0 : TAccount) : Option Int :=
  Option.bind (iter (sTotalReserved_L1 a0) FU (0, 0)) fun (v4 : Int) => some v4
theorem sTotalReserved_c {a0 : TAccount} {r : Int} (H : sTotalReserved a0 = some r) : Fn Tryd.prog 47 [.agg (eTAccount a0)] [.c (.d (.i .i64 r))] := by
  refine fn_in Tryd.func47 rfl (by kernel_rfl) Tryd.ntmps47 rfl rfl rfl ?_
  refine wk ?_
  obtain ⟨v4, Hj, H⟩ := ob H
  refine awc_jblk ⟨[(3, tI v4)], [], 0⟩ ?_ ?_
  · refine wk ?_
    refine awc_iter (fun (q : Int × Int) => ⟨[(1, .v (.c (.p 0 0))), (3, tI q.1), (4, tI q.2)], [(0, .var 36 [.d false (.i .i64 a0.Total), .d false (.i .i64 a0.Available), .d false (.i .i64 a0.Spent), .d false (.l (a0.Reservations.map eTReservation))])], 1⟩) Hj (weak_of ⟨rfl, rfl, rfl, rfl, rfl, rfl, trivial⟩ ⟨rfl, ⟨rfl, rfl⟩, trivial⟩) ?_
    rintro ⟨v1, v2⟩ o H
    try dsimp only
    refine wk ?_
    refine awc_cond rfl (fun h => ?_) (fun h => ?_)
    · have H := bt h H
      refine wk ?_
      obtain ⟨x5, hx5, H⟩ := ob H
      refine awr_n rfl (xdT (enc := eTReservation) hx5 (fun _ => rfl) rfl rfl rfl) ?_
      refine wk ?_
      cases H
      refine iq_n ?_
      exact weak_of ⟨rfl, rfl, rfl, rfl, rfl, rfl, trivial⟩ ⟨rfl, ⟨rfl, rfl⟩, trivial⟩
    · have H := bf h H
      refine wk ?_
      cases H
      refine iq_e (fun hq => ?_)
      cases hq
      refine wk ?_
      exact weak_of ⟨rfl, rfl, trivial⟩ trivial
  refine wk ?_
  cases H
  exact fin_ret (.cons (.tmp rfl) .nil) rfl rfl rfl
def sFormatAccount (a0 : TAccount) : Option ByteArray :=
  Option.bind (sFormatInt a0.Available) fun r1 => bif saOk r1 (⟨#[43]⟩ : ByteArray) then (Option.bind (sTotalReserved a0) fun r2 => Option.bind (sFormatInt r2) fun r3 => bif saOk (r1 ++ (⟨#[43]⟩ : ByteArray)) r3 then (bif saOk ((r1 ++ (⟨#[43]⟩ : ByteArray)) ++ r3) (⟨#[43]⟩ : ByteArray) then (Option.bind (sFormatInt a0.Spent) fun r4 => bif saOk (((r1 ++ (⟨#[43]⟩ : ByteArray)) ++ r3) ++ (⟨#[43]⟩ : ByteArray)) r4 then (bif saOk ((((r1 ++ (⟨#[43]⟩ : ByteArray)) ++ r3) ++ (⟨#[43]⟩ : ByteArray)) ++ r4) (⟨#[61]⟩ : ByteArray) then (Option.bind (sFormatInt a0.Total) fun r5 => bif saOk (((((r1 ++ (⟨#[43]⟩ : ByteArray)) ++ r3) ++ (⟨#[43]⟩ : ByteArray)) ++ r4) ++ (⟨#[61]⟩ : ByteArray)) r5 then (some ((((((r1 ++ (⟨#[43]⟩ : ByteArray)) ++ r3) ++ (⟨#[43]⟩ : ByteArray)) ++ r4) ++ (⟨#[61]⟩ : ByteArray)) ++ r5)) else none) else none) else none) else none) else none) else none
theorem sFormatAccount_c {a0 : TAccount} {r : ByteArray} (H : sFormatAccount a0 = some r) : Fn Tryd.prog 15 [.agg (eTAccount a0)] [.c (.d (.str r))] := by
  refine fn_in Tryd.func15 rfl (by kernel_rfl) Tryd.ntmps15 rfl rfl rfl ?_
  refine wkd ?_
  obtain ⟨r1, hr1, H⟩ := ob H
  refine dr_n rfl (ca rfl rfl rfl (sFormatInt_c hr1) trivial rfl rfl rfl rfl) ?_
  refine wkd ?_
  obtain ⟨h, H⟩ := rq H
  refine dr_n rfl (saT h rfl rfl rfl) ?_
  refine wkd ?_
  obtain ⟨r2, hr2, H⟩ := ob H
  refine dr_n rfl (ca rfl rfl rfl (sTotalReserved_c hr2) trivial rfl rfl rfl rfl) ?_
  refine wkd ?_
  obtain ⟨r3, hr3, H⟩ := ob H
  refine dr_n rfl (ca rfl rfl rfl (sFormatInt_c hr3) trivial rfl rfl rfl rfl) ?_
  refine wkd ?_
  obtain ⟨h, H⟩ := rq H
  refine dr_n rfl (saT h rfl rfl rfl) ?_
  refine wkd ?_
  obtain ⟨h, H⟩ := rq H
  refine dr_n rfl (saT h rfl rfl rfl) ?_
  refine wkd ?_
  obtain ⟨r4, hr4, H⟩ := ob H
  refine dr_n rfl (ca rfl rfl rfl (sFormatInt_c hr4) trivial rfl rfl rfl rfl) ?_
  refine wkd ?_
  obtain ⟨h, H⟩ := rq H
  refine dr_n rfl (saT h rfl rfl rfl) ?_
  refine wkd ?_
  obtain ⟨h, H⟩ := rq H
  refine dr_n rfl (saT h rfl rfl rfl) ?_
  refine wkd ?_
  obtain ⟨r5, hr5, H⟩ := ob H
  refine dr_n rfl (ca rfl rfl rfl (sFormatInt_c hr5) trivial rfl rfl rfl rfl) ?_
  refine wkd ?_
  obtain ⟨h, H⟩ := rq H
  refine dr_n rfl (saT h rfl rfl rfl) ?_
  refine wkd ?_
  cases H
  exact fin_ret (.cons (.tmp rfl) .nil) rfl rfl rfl
def sl1In (a0 : Int) (a1 : Int) (a2 : Int) : Option Bool :=
  Option.bind (bif leB a1 a0 then (some (leB a0 a2)) else (some false)) fun (v1 : Bool) => some v1
theorem sl1In_c {a0 : Int} {a1 : Int} {a2 : Int} {r : Bool} (H : sl1In a0 a1 a2 = some r) : Fn Tryd.prog 60 [aI a0, aI a1, aI a2] [.c (.d (.b r))] := by
  refine fn_in Tryd.func60 rfl (by kernel_rfl) Tryd.ntmps60 rfl rfl rfl ?_
  refine wk ?_
  obtain ⟨v1, Hj, H⟩ := ob H
  refine awr_join ⟨[(6, tB v1)], [], 0⟩ ?_ ?_
  · have H := Hj
    refine wk ?_
    refine g2 rfl rfl rfl (fun h => ?_) (fun h => ?_)
    · have H := bt h H
      refine wk ?_
      cases H
      exact weak_of ⟨rfl, rfl, trivial⟩ trivial
    · have H := bf h H
      refine wk ?_
      cases H
      exact weak_of ⟨rfl, rfl, trivial⟩ trivial
  refine wk ?_
  cases H
  exact fin_ret (.cons (.tmp rfl) .nil) rfl rfl rfl
def sFormatSignal (a0 : TSignal) : Option ByteArray :=
  Option.bind (sl1In a0.Kind 1 8) fun r1 => Option.bind (bif r1 then (Option.bind (ix [⟨#[]⟩, ⟨#[97, 116, 116, 97, 99, 104]⟩, ⟨#[99, 104, 97, 108, 108, 101, 110, 103, 101]⟩, ⟨#[114, 101, 115, 112, 111, 110, 115, 101]⟩, ⟨#[97, 99, 99, 101, 112, 116]⟩, ⟨#[112, 97, 116, 104, 45, 117, 112, 100, 97, 116, 101]⟩, ⟨#[112, 97, 116, 104, 45, 97, 99, 107]⟩, ⟨#[112, 97, 103, 101]⟩, ⟨#[100, 97, 116, 97, 45, 97, 99, 107]⟩] a0.Kind) fun x3 => some x3) else (some ⟨#[63]⟩)) fun (v2 : ByteArray) => bif saOk v2 (⟨#[64]⟩ : ByteArray) then (Option.bind (sFormatInt a0.Cell) fun r4 => bif saOk (v2 ++ (⟨#[64]⟩ : ByteArray)) r4 then (bif saOk ((v2 ++ (⟨#[64]⟩ : ByteArray)) ++ r4) (⟨#[58]⟩ : ByteArray) then (Option.bind (sFormatInt a0.Generation) fun r5 => bif saOk (((v2 ++ (⟨#[64]⟩ : ByteArray)) ++ r4) ++ (⟨#[58]⟩ : ByteArray)) r5 then (bif saOk ((((v2 ++ (⟨#[64]⟩ : ByteArray)) ++ r4) ++ (⟨#[58]⟩ : ByteArray)) ++ r5) (⟨#[46]⟩ : ByteArray) then (Option.bind (sFormatInt a0.Epoch) fun r6 => bif saOk (((((v2 ++ (⟨#[64]⟩ : ByteArray)) ++ r4) ++ (⟨#[58]⟩ : ByteArray)) ++ r5) ++ (⟨#[46]⟩ : ByteArray)) r6 then (some ((((((v2 ++ (⟨#[64]⟩ : ByteArray)) ++ r4) ++ (⟨#[58]⟩ : ByteArray)) ++ r5) ++ (⟨#[46]⟩ : ByteArray)) ++ r6)) else none) else none) else none) else none) else none) else none
theorem sFormatSignal_c {a0 : TSignal} {r : ByteArray} (H : sFormatSignal a0 = some r) : Fn Tryd.prog 53 [.agg (eTSignal a0)] [.c (.d (.str r))] := by
  refine fn_in Tryd.func53 rfl (by kernel_rfl) Tryd.ntmps53 rfl rfl rfl ?_
  refine wkd ?_
  obtain ⟨r1, hr1, H⟩ := ob H
  refine awr_n rfl (ca rfl rfl rfl (sl1In_c hr1) trivial rfl rfl rfl rfl) ?_
  refine wkd ?_
  obtain ⟨v2, Hj, H⟩ := ob H
  refine awc_join ⟨[(1, .v (.c (.p 0 0))), (3, tS v2)], [(0, .var 55 [.d false (.i .i64 a0.Kind), .d false (.i .i64 a0.Cell), .d false (.i .i64 a0.Generation), .d false (.i .i64 a0.Epoch), .d false (.i .i64 a0.Number), .d false (.i .i64 a0.Vector.Rand), .d false (.i .i64 a0.Vector.Autn), .d false (.i .i64 a0.Vector.MAC), .d false (.i .i64 a0.Vector.Res), .d false (.i .i64 a0.Vector.Key), .d false (.i .i64 a0.MAC)])], 1⟩ ?_ ?_
  · have H := Hj
    refine wkd ?_
    refine awc_cond rfl (fun h => ?_) (fun h => ?_)
    · have H := bt h H
      refine wkd ?_
      obtain ⟨x3, hx3, H⟩ := ob H
      refine awr_n rfl (xwT hx3 (by first | rfl | simp) rfl rfl rfl) ?_
      refine wkd ?_
      refine awr_n rfl (oe rfl rfl rfl (ix_map eS hx3) rfl) ?_
      refine wkd ?_
      cases H
      exact weak_of ⟨rfl, rfl, rfl, rfl, trivial⟩ ⟨rfl, ⟨rfl, rfl⟩, trivial⟩
    · have H := bf h H
      refine wkd ?_
      cases H
      exact weak_of ⟨rfl, rfl, rfl, rfl, trivial⟩ ⟨rfl, ⟨rfl, rfl⟩, trivial⟩
  refine wkd ?_
  obtain ⟨h, H⟩ := rq H
  refine dr_n rfl (saT h rfl rfl rfl) ?_
  refine wkd ?_
  obtain ⟨r4, hr4, H⟩ := ob H
  refine dr_n rfl (ca rfl rfl rfl (sFormatInt_c hr4) trivial rfl rfl rfl rfl) ?_
  refine wkd ?_
  obtain ⟨h, H⟩ := rq H
  refine dr_n rfl (saT h rfl rfl rfl) ?_
  refine wkd ?_
  obtain ⟨h, H⟩ := rq H
  refine dr_n rfl (saT h rfl rfl rfl) ?_
  refine wkd ?_
  obtain ⟨r5, hr5, H⟩ := ob H
  refine dr_n rfl (ca rfl rfl rfl (sFormatInt_c hr5) trivial rfl rfl rfl rfl) ?_
  refine wkd ?_
  obtain ⟨h, H⟩ := rq H
  refine dr_n rfl (saT h rfl rfl rfl) ?_
  refine wkd ?_
  obtain ⟨h, H⟩ := rq H
  refine dr_n rfl (saT h rfl rfl rfl) ?_
  refine wkd ?_
  obtain ⟨r6, hr6, H⟩ := ob H
  refine dr_n rfl (ca rfl rfl rfl (sFormatInt_c hr6) trivial rfl rfl rfl rfl) ?_
  refine wkd ?_
  obtain ⟨h, H⟩ := rq H
  refine dr_n rfl (saT h rfl rfl rfl) ?_
  refine wkd ?_
  cases H
  exact fin_ret (.cons (.tmp rfl) .nil) rfl rfl rfl
def sFormatFlight (a0 : TFlight) : Option ByteArray :=
  Option.bind (sFormatInt a0.Device) fun r1 => Option.bind (bif a0.Uplink then (bif saOk r1 (⟨#[94]⟩ : ByteArray) then (some (r1 ++ (⟨#[94]⟩ : ByteArray))) else none) else (bif saOk r1 (⟨#[118]⟩ : ByteArray) then (some (r1 ++ (⟨#[118]⟩ : ByteArray))) else none)) fun (v2 : ByteArray) => bif !a0.IsRadio then (Option.bind (sFormatSignal a0.Signal) fun r3 => bif saOk v2 r3 then (some (v2 ++ r3)) else none) else (bif saOk v2 (⟨#[100, 97, 116, 97, 64]⟩ : ByteArray) then (Option.bind (sFormatInt a0.Cell) fun r4 => bif saOk (v2 ++ (⟨#[100, 97, 116, 97, 64]⟩ : ByteArray)) r4 then (bif saOk ((v2 ++ (⟨#[100, 97, 116, 97, 64]⟩ : ByteArray)) ++ r4) (⟨#[58]⟩ : ByteArray) then (Option.bind (sFormatInt a0.Radio.Message.Count) fun r5 => bif saOk (((v2 ++ (⟨#[100, 97, 116, 97, 64]⟩ : ByteArray)) ++ r4) ++ (⟨#[58]⟩ : ByteArray)) r5 then (bif saOk ((((v2 ++ (⟨#[100, 97, 116, 97, 64]⟩ : ByteArray)) ++ r4) ++ (⟨#[58]⟩ : ByteArray)) ++ r5) (⟨#[46]⟩ : ByteArray) then (Option.bind (sFormatInt a0.Radio.Epoch) fun r6 => bif saOk (((((v2 ++ (⟨#[100, 97, 116, 97, 64]⟩ : ByteArray)) ++ r4) ++ (⟨#[58]⟩ : ByteArray)) ++ r5) ++ (⟨#[46]⟩ : ByteArray)) r6 then (some ((((((v2 ++ (⟨#[100, 97, 116, 97, 64]⟩ : ByteArray)) ++ r4) ++ (⟨#[58]⟩ : ByteArray)) ++ r5) ++ (⟨#[46]⟩ : ByteArray)) ++ r6)) else none) else none) else none) else none) else none) else none)
theorem sFormatFlight_c {a0 : TFlight} {r : ByteArray} (H : sFormatFlight a0 = some r) : Fn Tryd.prog 20 [.agg (eTFlight a0)] [.c (.d (.str r))] := by
  refine fn_in Tryd.func20 rfl (by kernel_rfl) Tryd.ntmps20 rfl rfl rfl ?_
  refine wkd ?_
  obtain ⟨r1, hr1, H⟩ := ob H
  refine awr_n rfl (ca rfl rfl rfl (sFormatInt_c hr1) trivial rfl rfl rfl rfl) ?_
  refine wkd ?_
  obtain ⟨v2, Hj, H⟩ := ob H
  refine awc_join ⟨[(1, .v (.c (.p 0 0))), (3, tS v2)], [(0, .var 60 [.d false (.i .i64 a0.Device), .d false (.b a0.Uplink), .d false (.b a0.IsRadio), .d false (.i .i64 a0.Cell), .d false (.i .i64 a0.Signal.Kind), .d false (.i .i64 a0.Signal.Cell), .d false (.i .i64 a0.Signal.Generation), .d false (.i .i64 a0.Signal.Epoch), .d false (.i .i64 a0.Signal.Number), .d false (.i .i64 a0.Signal.Vector.Rand), .d false (.i .i64 a0.Signal.Vector.Autn), .d false (.i .i64 a0.Signal.Vector.MAC), .d false (.i .i64 a0.Signal.Vector.Res), .d false (.i .i64 a0.Signal.Vector.Key), .d false (.i .i64 a0.Signal.MAC), .d false (.i .i64 a0.Radio.Generation), .d false (.i .i64 a0.Radio.Epoch), .d false (.i .i64 a0.Radio.Message.Direction), .d false (.i .i64 a0.Radio.Message.Count), .d false (.l (a0.Radio.Message.Data.map eU8)), .d false (.i .i64 a0.Radio.Message.MAC)])], 1⟩ ?_ ?_
  · have H := Hj
    refine wkd ?_
    refine awc_cond rfl (fun h => ?_) (fun h => ?_)
    · have H := bt h H
      refine wkd ?_
      obtain ⟨h, H⟩ := rq H
      refine awr_n rfl (saT h rfl rfl rfl) ?_
      refine wkd ?_
      cases H
      exact weak_of ⟨rfl, rfl, rfl, rfl, trivial⟩ ⟨rfl, ⟨rfl, rfl⟩, trivial⟩
    · have H := bf h H
      refine wkd ?_
      obtain ⟨h, H⟩ := rq H
      refine awr_n rfl (saT h rfl rfl rfl) ?_
      refine wkd ?_
      cases H
      exact weak_of ⟨rfl, rfl, rfl, rfl, trivial⟩ ⟨rfl, ⟨rfl, rfl⟩, trivial⟩
  refine wkd ?_
  refine awc_cond rfl (fun h => ?_) (fun h => ?_)
  · have H := bt h H
    refine wkd ?_
    obtain ⟨r3, hr3, H⟩ := ob H
    refine awr_n rfl (ca rfl rfl rfl (sFormatSignal_c hr3) trivial rfl rfl rfl rfl) ?_
    refine wkd ?_
    obtain ⟨h, H⟩ := rq H
    refine awr_n rfl (saT h rfl rfl rfl) ?_
    refine wkd ?_
    cases H
    exact fin_ret (.cons (.tmp rfl) .nil) rfl rfl rfl
  · have H := bf h H
    refine wkd ?_
    obtain ⟨h, H⟩ := rq H
    refine dr_n rfl (saT h rfl rfl rfl) ?_
    refine wkd ?_
    obtain ⟨r4, hr4, H⟩ := ob H
    refine dr_n rfl (ca rfl rfl rfl (sFormatInt_c hr4) trivial rfl rfl rfl rfl) ?_
    refine wkd ?_
    obtain ⟨h, H⟩ := rq H
    refine dr_n rfl (saT h rfl rfl rfl) ?_
    refine wkd ?_
    obtain ⟨h, H⟩ := rq H
    refine dr_n rfl (saT h rfl rfl rfl) ?_
    refine wkd ?_
    obtain ⟨r5, hr5, H⟩ := ob H
    refine dr_n rfl (ca rfl rfl rfl (sFormatInt_c hr5) trivial rfl rfl rfl rfl) ?_
    refine wkd ?_
    obtain ⟨h, H⟩ := rq H
    refine dr_n rfl (saT h rfl rfl rfl) ?_
    refine wkd ?_
    obtain ⟨h, H⟩ := rq H
    refine dr_n rfl (saT h rfl rfl rfl) ?_
    refine wkd ?_
    obtain ⟨r6, hr6, H⟩ := ob H
    refine dr_n rfl (ca rfl rfl rfl (sFormatInt_c hr6) trivial rfl rfl rfl rfl) ?_
    refine wkd ?_
    obtain ⟨h, H⟩ := rq H
    refine dr_n rfl (saT h rfl rfl rfl) ?_
    refine wkd ?_
    cases H
    exact fin_ret (.cons (.tmp rfl) .nil) rfl rfl rfl
def sIsValidSubscriberID (a0 : TSubscriberID) : Option Bool :=
  Option.bind (sl1In a0.Network 0 3) fun r1 => Option.bind (bif r1 then (Option.bind (sl1In a0.Number 0 99) fun r3 => some r3) else (some false)) fun (v2 : Bool) => some v2
theorem sIsValidSubscriberID_c {a0 : TSubscriberID} {r : Bool} (H : sIsValidSubscriberID a0 = some r) : Fn Tryd.prog 110 [.agg (eTSubscriberID a0)] [.c (.d (.b r))] := by
  refine fn_in Tryd.func110 rfl (by kernel_rfl) Tryd.ntmps110 rfl rfl rfl ?_
  refine wk ?_
  obtain ⟨r1, hr1, H⟩ := ob H
  refine awr_n rfl (ca rfl rfl rfl (sl1In_c hr1) trivial rfl rfl rfl rfl) ?_
  refine wk ?_
  obtain ⟨v2, Hj, H⟩ := ob H
  refine awr_join ⟨[(2, tB v2)], [], 0⟩ ?_ ?_
  · have H := Hj
    refine wk ?_
    refine g2 rfl rfl rfl (fun h => ?_) (fun h => ?_)
    · have H := bt h H
      refine wk ?_
      obtain ⟨r3, hr3, H⟩ := ob H
      refine awr_ng rfl rfl rfl rfl (ca rfl rfl rfl (sl1In_c hr3) trivial rfl rfl rfl rfl) ?_
      refine wk ?_
      cases H
      exact weak_of ⟨rfl, rfl, trivial⟩ trivial
    · have H := bf h H
      refine wk ?_
      cases H
      exact weak_of ⟨rfl, rfl, trivial⟩ trivial
  refine wk ?_
  cases H
  exact fin_ret (.cons (.tmp rfl) .nil) rfl rfl rfl
def sFormatSubscriberID (a0 : TSubscriberID) : Option ByteArray :=
  Option.bind (sIsValidSubscriberID a0) fun r1 => bif !r1 then (some ⟨#[]⟩) else (Option.bind (sFormatInt a0.Network) fun r2 => bif saOk r2 (⟨#[45]⟩ : ByteArray) then (Option.bind (sFormatInt a0.Number) fun r3 => bif saOk (r2 ++ (⟨#[45]⟩ : ByteArray)) r3 then (some ((r2 ++ (⟨#[45]⟩ : ByteArray)) ++ r3)) else none) else none)
theorem sFormatSubscriberID_c {a0 : TSubscriberID} {r : ByteArray} (H : sFormatSubscriberID a0 = some r) : Fn Tryd.prog 61 [.agg (eTSubscriberID a0)] [.c (.d (.str r))] := by
  refine fn_in Tryd.func61 rfl (by kernel_rfl) Tryd.ntmps61 rfl rfl rfl ?_
  refine wkd ?_
  obtain ⟨r1, hr1, H⟩ := ob H
  refine awr_n rfl (ca rfl rfl rfl (sIsValidSubscriberID_c hr1) trivial rfl rfl rfl rfl) ?_
  refine wkd ?_
  refine awc_cond rfl (fun h => ?_) (fun h => ?_)
  · have H := bt h H
    refine wkd ?_
    cases H
    exact fin_ret (.cons (.tmp rfl) .nil) rfl rfl rfl
  · have H := bf h H
    refine wkd ?_
    obtain ⟨r2, hr2, H⟩ := ob H
    refine dr_n rfl (ca rfl rfl rfl (sFormatInt_c hr2) trivial rfl rfl rfl rfl) ?_
    refine wkd ?_
    obtain ⟨h, H⟩ := rq H
    refine dr_n rfl (saT h rfl rfl rfl) ?_
    refine wkd ?_
    obtain ⟨r3, hr3, H⟩ := ob H
    refine dr_n rfl (ca rfl rfl rfl (sFormatInt_c hr3) trivial rfl rfl rfl rfl) ?_
    refine wkd ?_
    obtain ⟨h, H⟩ := rq H
    refine dr_n rfl (saT h rfl rfl rfl) ?_
    refine wkd ?_
    cases H
    exact fin_ret (.cons (.tmp rfl) .nil) rfl rfl rfl
def sFormatDevice (a0 : TDevice) : Option ByteArray :=
  Option.bind (sl1In a0.State 0 3) fun r1 => Option.bind (bif r1 then (Option.bind (ix [⟨#[111, 102, 102]⟩, ⟨#[97, 116, 116, 97, 99, 104, 105, 110, 103]⟩, ⟨#[99, 111, 110, 110, 101, 99, 116, 101, 100]⟩, ⟨#[105, 100, 108, 101]⟩] a0.State) fun x3 => some x3) else (some ⟨#[63]⟩)) fun (v2 : ByteArray) => Option.bind (sFormatSubscriberID a0.Card.ID) fun r4 => bif saOk r4 (⟨#[32]⟩ : ByteArray) then (bif saOk (r4 ++ (⟨#[32]⟩ : ByteArray)) v2 then (bif saOk ((r4 ++ (⟨#[32]⟩ : ByteArray)) ++ v2) (⟨#[64]⟩ : ByteArray) then (Option.bind (sFormatInt a0.Cell) fun r5 => bif saOk (((r4 ++ (⟨#[32]⟩ : ByteArray)) ++ v2) ++ (⟨#[64]⟩ : ByteArray)) r5 then (bif saOk ((((r4 ++ (⟨#[32]⟩ : ByteArray)) ++ v2) ++ (⟨#[64]⟩ : ByteArray)) ++ r5) (⟨#[46]⟩ : ByteArray) then (Option.bind (sFormatInt a0.Epoch) fun r6 => bif saOk (((((r4 ++ (⟨#[32]⟩ : ByteArray)) ++ v2) ++ (⟨#[64]⟩ : ByteArray)) ++ r5) ++ (⟨#[46]⟩ : ByteArray)) r6 then (bif saOk ((((((r4 ++ (⟨#[32]⟩ : ByteArray)) ++ v2) ++ (⟨#[64]⟩ : ByteArray)) ++ r5) ++ (⟨#[46]⟩ : ByteArray)) ++ r6) (⟨#[32]⟩ : ByteArray) then (Option.bind (sFormatInt ((a0.Receiver.Delivered.length : Nat) : Int)) fun r7 => bif saOk (((((((r4 ++ (⟨#[32]⟩ : ByteArray)) ++ v2) ++ (⟨#[64]⟩ : ByteArray)) ++ r5) ++ (⟨#[46]⟩ : ByteArray)) ++ r6) ++ (⟨#[32]⟩ : ByteArray)) r7 then (some ((((((((r4 ++ (⟨#[32]⟩ : ByteArray)) ++ v2) ++ (⟨#[64]⟩ : ByteArray)) ++ r5) ++ (⟨#[46]⟩ : ByteArray)) ++ r6) ++ (⟨#[32]⟩ : ByteArray)) ++ r7)) else none) else none) else none) else none) else none) else none) else none) else none
theorem sFormatDevice_c {a0 : TDevice} {r : ByteArray} (H : sFormatDevice a0 = some r) : Fn Tryd.prog 25 [.agg (eTDevice a0)] [.c (.d (.str r))] := by
  refine fn_in Tryd.func25 rfl (by kernel_rfl) Tryd.ntmps25 rfl rfl rfl ?_
  refine wkd ?_
  obtain ⟨r1, hr1, H⟩ := ob H
  refine awr_n rfl (ca rfl rfl rfl (sl1In_c hr1) trivial rfl rfl rfl rfl) ?_
  refine wkd ?_
  obtain ⟨v2, Hj, H⟩ := ob H
  refine awc_join ⟨[(1, .v (.c (.p 0 0))), (3, tS v2)], [(0, .var 84 [.d false (.i .i64 a0.Card.ID.Network), .d false (.i .i64 a0.Card.ID.Number), .d false (.i .i64 a0.Card.Key), .d false (.i .i64 a0.Card.LastSeq), .d false (.i .i64 a0.State), .d false (.i .i64 a0.Cell), .d false (.i .i64 a0.Generation), .d false (.i .i64 a0.RootKey), .d false (.i .i64 a0.Epoch), .d false (.b a0.PathConfirmed), .d false (.i .i64 a0.Wait), .d false (.i .i64 a0.Receiver.Next), .d false (.l (a0.Receiver.Pending.map eTNumberedPacket)), .d false (.l (a0.Receiver.Delivered.map eTPayload))])], 1⟩ ?_ ?_
  · have H := Hj
    refine wkd ?_
    refine awc_cond rfl (fun h => ?_) (fun h => ?_)
    · have H := bt h H
      refine wkd ?_
      obtain ⟨x3, hx3, H⟩ := ob H
      refine awr_n rfl (xwT hx3 (by first | rfl | simp) rfl rfl rfl) ?_
      refine wkd ?_
      refine awr_n rfl (oe rfl rfl rfl (ix_map eS hx3) rfl) ?_
      refine wkd ?_
      cases H
      exact weak_of ⟨rfl, rfl, rfl, rfl, trivial⟩ ⟨rfl, ⟨rfl, rfl⟩, trivial⟩
    · have H := bf h H
      refine wkd ?_
      cases H
      exact weak_of ⟨rfl, rfl, rfl, rfl, trivial⟩ ⟨rfl, ⟨rfl, rfl⟩, trivial⟩
  refine wkd ?_
  obtain ⟨r4, hr4, H⟩ := ob H
  refine dr_n rfl (ca rfl rfl rfl (sFormatSubscriberID_c hr4) trivial rfl rfl rfl rfl) ?_
  refine wkd ?_
  obtain ⟨h, H⟩ := rq H
  refine dr_n rfl (saT h rfl rfl rfl) ?_
  refine wkd ?_
  obtain ⟨h, H⟩ := rq H
  refine dr_n rfl (saT h rfl rfl rfl) ?_
  refine wkd ?_
  obtain ⟨h, H⟩ := rq H
  refine dr_n rfl (saT h rfl rfl rfl) ?_
  refine wkd ?_
  obtain ⟨r5, hr5, H⟩ := ob H
  refine dr_n rfl (ca rfl rfl rfl (sFormatInt_c hr5) trivial rfl rfl rfl rfl) ?_
  refine wkd ?_
  obtain ⟨h, H⟩ := rq H
  refine dr_n rfl (saT h rfl rfl rfl) ?_
  refine wkd ?_
  obtain ⟨h, H⟩ := rq H
  refine dr_n rfl (saT h rfl rfl rfl) ?_
  refine wkd ?_
  obtain ⟨r6, hr6, H⟩ := ob H
  refine dr_n rfl (ca rfl rfl rfl (sFormatInt_c hr6) trivial rfl rfl rfl rfl) ?_
  refine wkd ?_
  obtain ⟨h, H⟩ := rq H
  refine dr_n rfl (saT h rfl rfl rfl) ?_
  refine wkd ?_
  obtain ⟨h, H⟩ := rq H
  refine dr_n rfl (saT h rfl rfl rfl) ?_
  refine wkd ?_
  obtain ⟨r7, hr7, H⟩ := ob H
  refine dr_n rfl (ca rfl rfl rfl (sFormatInt_c hr7) trivial rfl rfl rfl rfl) ?_
  refine wkd ?_
  obtain ⟨h, H⟩ := rq H
  refine dr_n rfl (saT h rfl rfl rfl) ?_
  refine wkd ?_
  cases H
  exact fin_ret (.cons (.tmp rfl) .nil) rfl rfl rfl
def sAcknowledgedPackets (a0 : TSession) : Option Int :=
  some (WR ((WR (a0.Window.Next - 1)) - ((a0.Window.Unacked.length : Nat) : Int)))
theorem sAcknowledgedPackets_c {a0 : TSession} {r : Int} (H : sAcknowledgedPackets a0 = some r) : Fn Tryd.prog 82 [.agg (eTSession a0)] [.c (.d (.i .i64 r))] := by
  refine fn_in Tryd.func82 rfl (by kernel_rfl) Tryd.ntmps82 rfl rfl rfl ?_
  refine wk ?_
  cases H
  exact fin_ret (.cons (.tmp rfl) .nil) rfl rfl rfl
def sFormatSession (a0 : TSession) : Option ByteArray :=
  Option.bind (sl1In a0.State 0 1) fun r1 => Option.bind (bif r1 then (Option.bind (ix [⟨#[100, 101, 116, 97, 99, 104, 101, 100]⟩, ⟨#[97, 99, 116, 105, 118, 101]⟩] a0.State) fun x3 => some x3) else (some ⟨#[63]⟩)) fun (v2 : ByteArray) => bif saOk v2 (⟨#[64]⟩ : ByteArray) then (Option.bind (sFormatInt a0.Cell) fun r4 => bif saOk (v2 ++ (⟨#[64]⟩ : ByteArray)) r4 then (bif saOk ((v2 ++ (⟨#[64]⟩ : ByteArray)) ++ r4) (⟨#[46]⟩ : ByteArray) then (Option.bind (sFormatInt a0.Epoch) fun r5 => bif saOk (((v2 ++ (⟨#[64]⟩ : ByteArray)) ++ r4) ++ (⟨#[46]⟩ : ByteArray)) r5 then (bif saOk ((((v2 ++ (⟨#[64]⟩ : ByteArray)) ++ r4) ++ (⟨#[46]⟩ : ByteArray)) ++ r5) (⟨#[32]⟩ : ByteArray) then (Option.bind (sAcknowledgedPackets a0) fun r6 => Option.bind (sFormatInt r6) fun r7 => bif saOk (((((v2 ++ (⟨#[64]⟩ : ByteArray)) ++ r4) ++ (⟨#[46]⟩ : ByteArray)) ++ r5) ++ (⟨#[32]⟩ : ByteArray)) r7 then (bif saOk ((((((v2 ++ (⟨#[64]⟩ : ByteArray)) ++ r4) ++ (⟨#[46]⟩ : ByteArray)) ++ r5) ++ (⟨#[32]⟩ : ByteArray)) ++ r7) (⟨#[47]⟩ : ByteArray) then (Option.bind (sFormatInt (WR (a0.Window.Next - 1))) fun r8 => bif saOk (((((((v2 ++ (⟨#[64]⟩ : ByteArray)) ++ r4) ++ (⟨#[46]⟩ : ByteArray)) ++ r5) ++ (⟨#[32]⟩ : ByteArray)) ++ r7) ++ (⟨#[47]⟩ : ByteArray)) r8 then (bif saOk ((((((((v2 ++ (⟨#[64]⟩ : ByteArray)) ++ r4) ++ (⟨#[46]⟩ : ByteArray)) ++ r5) ++ (⟨#[32]⟩ : ByteArray)) ++ r7) ++ (⟨#[47]⟩ : ByteArray)) ++ r8) (⟨#[47]⟩ : ByteArray) then (Option.bind (sFormatInt ((a0.Submitted.length : Nat) : Int)) fun r9 => bif saOk (((((((((v2 ++ (⟨#[64]⟩ : ByteArray)) ++ r4) ++ (⟨#[46]⟩ : ByteArray)) ++ r5) ++ (⟨#[32]⟩ : ByteArray)) ++ r7) ++ (⟨#[47]⟩ : ByteArray)) ++ r8) ++ (⟨#[47]⟩ : ByteArray)) r9 then (some ((((((((((v2 ++ (⟨#[64]⟩ : ByteArray)) ++ r4) ++ (⟨#[46]⟩ : ByteArray)) ++ r5) ++ (⟨#[32]⟩ : ByteArray)) ++ r7) ++ (⟨#[47]⟩ : ByteArray)) ++ r8) ++ (⟨#[47]⟩ : ByteArray)) ++ r9)) else none) else none) else none) else none) else none) else none) else none) else none) else none) else none
theorem sFormatSession_c {a0 : TSession} {r : ByteArray} (H : sFormatSession a0 = some r) : Fn Tryd.prog 37 [.agg (eTSession a0)] [.c (.d (.str r))] := by
  refine fn_in Tryd.func37 rfl (by kernel_rfl) Tryd.ntmps37 rfl rfl rfl ?_
  refine wkd ?_
  obtain ⟨r1, hr1, H⟩ := ob H
  refine awr_n rfl (ca rfl rfl rfl (sl1In_c hr1) trivial rfl rfl rfl rfl) ?_
  refine wkd ?_
  obtain ⟨v2, Hj, H⟩ := ob H
  refine awc_join ⟨[(1, .v (.c (.p 0 0))), (3, tS v2)], [(0, .var 127 [.d false (.i .i64 a0.Record.ID.Network), .d false (.i .i64 a0.Record.ID.Number), .d false (.i .i64 a0.Record.Key), .d false (.i .i64 a0.Record.Seq), .d false (.i .i64 a0.Plan.RateLimit), .d false (.i .i64 a0.Plan.BestClass), .d false (.i .i64 a0.Plan.GrantSize), .d false (.l (a0.Plan.RoamingNetworks.map eI)), .d false (.i .i64 a0.State), .d false (.i .i64 a0.Pending.Rand), .d false (.i .i64 a0.Pending.Autn), .d false (.i .i64 a0.Pending.MAC), .d false (.i .i64 a0.Pending.Res), .d false (.i .i64 a0.Pending.Key), .d false (.i .i64 a0.PendingSeq), .d false (.i .i64 a0.Generation), .d false (.i .i64 a0.RootKey), .d false (.i .i64 a0.Epoch), .d false (.i .i64 a0.Cell), .d false (.i .i64 a0.Quiet), .d false (.i .i64 a0.Page.Area), .d false (.i .i64 a0.Page.Attempt), .d false (.i .i64 a0.Page.Wait), .d false (.l (a0.Submitted.map eTPayload)), .d false (.i .i64 a0.Window.Next), .d false (.l (a0.Window.Unacked.map eTNumberedPacket)), .d false (.i .i64 a0.Retry), .d false (.i .i64 a0.Usage.SessionID), .d false (.i .i64 a0.Usage.Granted), .d false (.i .i64 a0.Usage.Used)])], 1⟩ ?_ ?_
  · have H := Hj
    refine wkd ?_
    refine awc_cond rfl (fun h => ?_) (fun h => ?_)
    · have H := bt h H
      refine wkd ?_
      obtain ⟨x3, hx3, H⟩ := ob H
      refine awr_n rfl (xwT hx3 (by first | rfl | simp) rfl rfl rfl) ?_
      refine wkd ?_
      refine awr_n rfl (oe rfl rfl rfl (ix_map eS hx3) rfl) ?_
      refine wkd ?_
      cases H
      exact weak_of ⟨rfl, rfl, rfl, rfl, trivial⟩ ⟨rfl, ⟨rfl, rfl⟩, trivial⟩
    · have H := bf h H
      refine wkd ?_
      cases H
      exact weak_of ⟨rfl, rfl, rfl, rfl, trivial⟩ ⟨rfl, ⟨rfl, rfl⟩, trivial⟩
  refine wkd ?_
  obtain ⟨h, H⟩ := rq H
  refine dr_n rfl (saT h rfl rfl rfl) ?_
  refine wkd ?_
  obtain ⟨r4, hr4, H⟩ := ob H
  refine dr_n rfl (ca rfl rfl rfl (sFormatInt_c hr4) trivial rfl rfl rfl rfl) ?_
  refine wkd ?_
  obtain ⟨h, H⟩ := rq H
  refine dr_n rfl (saT h rfl rfl rfl) ?_
  refine wkd ?_
  obtain ⟨h, H⟩ := rq H
  refine dr_n rfl (saT h rfl rfl rfl) ?_
  refine wkd ?_
  obtain ⟨r5, hr5, H⟩ := ob H
  refine dr_n rfl (ca rfl rfl rfl (sFormatInt_c hr5) trivial rfl rfl rfl rfl) ?_
  refine wkd ?_
  obtain ⟨h, H⟩ := rq H
  refine dr_n rfl (saT h rfl rfl rfl) ?_
  refine wkd ?_
  obtain ⟨h, H⟩ := rq H
  refine dr_n rfl (saT h rfl rfl rfl) ?_
  refine wkd ?_
  obtain ⟨r6, hr6, H⟩ := ob H
  refine dr_n rfl (ca rfl rfl rfl (sAcknowledgedPackets_c hr6) trivial rfl rfl rfl rfl) ?_
  refine wkd ?_
  obtain ⟨r7, hr7, H⟩ := ob H
  refine dr_n rfl (ca rfl rfl rfl (sFormatInt_c hr7) trivial rfl rfl rfl rfl) ?_
  refine wkd ?_
  obtain ⟨h, H⟩ := rq H
  refine dr_n rfl (saT h rfl rfl rfl) ?_
  refine wkd ?_
  obtain ⟨h, H⟩ := rq H
  refine dr_n rfl (saT h rfl rfl rfl) ?_
  refine wkd ?_
  obtain ⟨r8, hr8, H⟩ := ob H
  refine dr_n rfl (ca rfl rfl rfl (sFormatInt_c hr8) trivial rfl rfl rfl rfl) ?_
  refine wkd ?_
  obtain ⟨h, H⟩ := rq H
  refine dr_n rfl (saT h rfl rfl rfl) ?_
  refine wkd ?_
  obtain ⟨h, H⟩ := rq H
  refine dr_n rfl (saT h rfl rfl rfl) ?_
  refine wkd ?_
  obtain ⟨r9, hr9, H⟩ := ob H
  refine dr_n rfl (ca rfl rfl rfl (sFormatInt_c hr9) trivial rfl rfl rfl rfl) ?_
  refine wkd ?_
  obtain ⟨h, H⟩ := rq H
  refine dr_n rfl (saT h rfl rfl rfl) ?_
  refine wkd ?_
  cases H
  exact fin_ret (.cons (.tmp rfl) .nil) rfl rfl rfl
end Go.AM
