/-
  Own text: a part of the abstract machine for this seat (Das). No statement is proved here.
-/
import Derived.Test.YtmlpfnppnjfcaaaDoorDai
set_option linter.unusedVariables false
namespace Go.AM
open Go.Proofs
attribute [local irreducible] AWN NS AWO AWR AWC DR Weak iterQ
set_option maxRecDepth 100000
set_option maxHeartbeats 4000000
def sl1New_L1 (a0 : List Int) : (Int × Int) → Option (Step (Int × Int) (Int))
  | (v1, v2) => Option.bind (bif ltB v2 ((a0.length : Nat) : Int) then (some (ltB v2 4000)) else (some false)) fun (v6 : Bool) => bif v6 then (Option.bind (ix a0 v2) fun x7 => some (.next (bAnd .i64 (WR ((WR ((WR (v1 * 137)) + (WR (x7)))) + 11)) 1073741823, WR (v2 + 1)))) else (some (.done v1))
def sl1New (a0 : List Int) : Option Tl1Cur :=
  Option.bind (iter (sl1New_L1 a0) FU (WR (193017 + ((a0.length : Nat) : Int)), 0)) fun (v5 : Int) => some (⟨a0, 0, v5⟩ : Tl1Cur)
theorem sl1New_c {a0 : List Int} {r : Tl1Cur} (H : sl1New a0 = some r) : FnN Tryd.prog 12 [aL (a0.map eU8)] 56 (eTl1Cur r) := by
  refine fn_inN Tryd.func12 rfl (by kernel_rfl) Tryd.ntmps12 rfl rfl rfl ?_
  refine wk ?_
  obtain ⟨v5, Hj, H⟩ := ob H
  refine awc_jblk ⟨[(0, .v (.c (.d false (.l (a0.map eU8))))), (3, tI v5)], [], 0⟩ ?_ ?_
  · refine wk ?_
    refine awc_iter (fun (q : Int × Int) => ⟨[(0, .v (.c (.d false (.l (a0.map eU8))))), (3, tI q.1), (4, tI q.2)], [], 0⟩) Hj (weak_of ⟨rfl, rfl, rfl, rfl, rfl, rfl, trivial⟩ trivial) ?_
    rintro ⟨v1, v2⟩ o H
    try dsimp only
    refine wk ?_
    obtain ⟨v6, Hj, H⟩ := ob H
    refine awr_join ⟨[(0, .v (.c (.d false (.l (a0.map eU8))))), (3, tI v1), (4, tI v2), (15, tB v6)], [], 0⟩ ?_ ?_
    · have H := Hj
      refine wk ?_
      refine g2 rfl rfl rfl (fun h => ?_) (fun h => ?_)
      · have H := bt h H
        refine wk ?_
        cases H
        exact weak_of ⟨rfl, rfl, rfl, rfl, rfl, rfl, rfl, rfl, trivial⟩ trivial
      · have H := bf h H
        refine wk ?_
        cases H
        exact weak_of ⟨rfl, rfl, rfl, rfl, rfl, rfl, rfl, rfl, trivial⟩ trivial
    refine wk ?_
    refine awc_cond rfl (fun h => ?_) (fun h => ?_)
    · have H := bt h H
      refine wk ?_
      obtain ⟨x7, hx7, H⟩ := ob H
      refine awr_n rfl (xdT (enc := eU8) hx7 (fun _ => rfl) rfl rfl rfl) ?_
      refine wk ?_
      cases H
      refine iq_n ?_
      exact weak_of ⟨rfl, rfl, rfl, rfl, rfl, rfl, trivial⟩ trivial
    · have H := bf h H
      refine wk ?_
      cases H
      refine iq_e (fun hq => ?_)
      cases hq
      refine wk ?_
      exact weak_of ⟨rfl, rfl, rfl, rfl, trivial⟩ trivial
  refine wk ?_
  cases H
  exact fin_retN rfl rfl rfl rfl rfl rfl
def sl1Byte (a0 : Tl1Cur) : Option (Int × Tl1Cur) :=
  Option.bind (bif ltB a0.fi ((a0.fb.length : Nat) : Int) then (Option.bind (ix a0.fb a0.fi) fun x3 => some (bAnd .i64 (WR ((bAnd .i64 (bXor .i64 (bShr .i64 (WR ((WR (a0.fh * 6364136223846793005)) + 1442695040888963407)) 33) (bShr .i64 (WR ((WR (a0.fh * 6364136223846793005)) + 1442695040888963407)) 47)) 255) + (WR (x3)))) 255, WR (a0.fi + 1))) else (some (bAnd .i64 (bXor .i64 (bShr .i64 (WR ((WR (a0.fh * 6364136223846793005)) + 1442695040888963407)) 33) (bShr .i64 (WR ((WR (a0.fh * 6364136223846793005)) + 1442695040888963407)) 47)) 255, a0.fi))) fun ((v1, v2) : Int × Int) => some (v1, (⟨a0.fb, v2, WR ((WR (a0.fh * 6364136223846793005)) + 1442695040888963407)⟩ : Tl1Cur))
theorem sl1Byte_c {a0 : Tl1Cur} {r : Int × Tl1Cur} (H : sl1Byte a0 = some r) : FnW Tryd.prog 45 (.var 56 [.d false (.l (a0.fb.map eU8)), .d false (.i .i64 a0.fi), .d false (.i .i64 a0.fh)]) [.v (.c (.p 200 0))] (.var 56 [.d false (.l (r.2.fb.map eU8)), .d false (.i .i64 r.2.fi), .d false (.i .i64 r.2.fh)]) [.c (.d (.i .i64 r.1))] := by
  refine fn_inW Tryd.func45 rfl (by kernel_rfl) Tryd.ntmps45 rfl rfl rfl rfl rfl ?_
  refine wkd ?_
  refine dr_n rfl (ishL (b := 33) rfl rfl rfl rfl) ?_
  refine wkd ?_
  refine dr_n rfl (ishL (b := 47) rfl rfl rfl rfl) ?_
  refine wkd ?_
  obtain ⟨⟨v1, v2⟩, Hj, H⟩ := ob H
  refine awc_join ⟨[(3, tI v1)], [(200, .var 56 [.d false (.l (a0.fb.map eU8)), .d false (.i .i64 v2), .d false (.i .i64 (WR ((WR (a0.fh * 6364136223846793005)) + 1442695040888963407)))])], 210⟩ ?_ ?_
  · have H := Hj
    refine wkd ?_
    refine awc_cond rfl (fun h => ?_) (fun h => ?_)
    · have H := bt h H
      refine wkd ?_
      obtain ⟨x3, hx3, H⟩ := ob H
      refine dr_n rfl (xdT (enc := eU8) hx3 (fun _ => rfl) rfl rfl rfl) ?_
      refine wkd ?_
      cases H
      exact weak_of ⟨rfl, rfl, trivial⟩ ⟨rfl, ⟨rfl, rfl⟩, trivial⟩
    · have H := bf h H
      refine wkd ?_
      cases H
      exact weak_of ⟨rfl, rfl, trivial⟩ ⟨rfl, ⟨rfl, rfl⟩, trivial⟩
  refine wkd ?_
  cases H
  exact fin_retW (.cons (.tmp rfl) .nil) rfl rfl rfl rfl (by first | rfl | simp)
def sl1Below (a0 : Tl1Cur) (a1 : Int) : Option (Int × Tl1Cur) :=
  bif leB a1 0 then (some (0, a0)) else (bif leB a1 256 then (Option.bind (sl1Byte a0) fun r1 => bif !eqB a1 0 then (some (Int.tmod r1.1 a1, r1.2)) else none) else (Option.bind (sl1Byte a0) fun r2 => Option.bind (sl1Byte r2.2) fun r3 => Option.bind (sl1Byte r3.2) fun r4 => bif !eqB a1 0 then (some (Int.tmod (WR ((WR ((WR (r2.1 * 65536)) + (WR (r3.1 * 256)))) + r4.1)) a1, r4.2)) else none))
theorem sl1Below_c {a0 : Tl1Cur} {a1 : Int} {r : Int × Tl1Cur} (H : sl1Below a0 a1 = some r) : FnW Tryd.prog 29 (.var 56 [.d false (.l (a0.fb.map eU8)), .d false (.i .i64 a0.fi), .d false (.i .i64 a0.fh)]) [.v (.c (.p 200 0)), tI a1] (.var 56 [.d false (.l (r.2.fb.map eU8)), .d false (.i .i64 r.2.fi), .d false (.i .i64 r.2.fh)]) [.c (.d (.i .i64 r.1))] := by
  refine fn_inW Tryd.func29 rfl (by kernel_rfl) Tryd.ntmps29 rfl rfl rfl rfl rfl ?_
  refine wk ?_
  refine awc_cond rfl (fun h => ?_) (fun h => ?_)
  · have H := bt h H
    refine wk ?_
    cases H
    exact fin_retW (.cons (.tmp rfl) .nil) rfl rfl rfl rfl (by first | rfl | simp)
  · have H := bf h H
    refine wk ?_
    refine awc_cond rfl (fun h => ?_) (fun h => ?_)
    · have H := bt h H
      refine wk ?_
      obtain ⟨r1, hr1, H⟩ := ob H
      refine awr_step rfl (cw (o := 200) (sl1Byte_c hr1) rfl rfl rfl rfl rfl rfl trivial rfl rfl rfl rfl) ?_
      refine wk ?_
      obtain ⟨h, H⟩ := rq H
      refine awr_n rfl (ir rfl rfl rfl (ne0 h)) ?_
      refine wk ?_
      cases H
      exact fin_retW (.cons (.tmp rfl) .nil) rfl rfl rfl rfl (by first | rfl | simp)
    · have H := bf h H
      refine wk ?_
      obtain ⟨r2, hr2, H⟩ := ob H
      refine awr_step rfl (cw (o := 200) (sl1Byte_c hr2) rfl rfl rfl rfl rfl rfl trivial rfl rfl rfl rfl) ?_
      refine wk ?_
      obtain ⟨r3, hr3, H⟩ := ob H
      refine awr_step rfl (cw (o := 200) (sl1Byte_c hr3) rfl rfl rfl rfl rfl rfl trivial rfl rfl rfl rfl) ?_
      refine wk ?_
      obtain ⟨r4, hr4, H⟩ := ob H
      refine awr_step rfl (cw (o := 200) (sl1Byte_c hr4) rfl rfl rfl rfl rfl rfl trivial rfl rfl rfl rfl) ?_
      refine wk ?_
      obtain ⟨h, H⟩ := rq H
      refine awr_n rfl (ir rfl rfl rfl (ne0 h)) ?_
      refine wk ?_
      cases H
      exact fin_retW (.cons (.tmp rfl) .nil) rfl rfl rfl rfl (by first | rfl | simp)
def sl18Copy (a0 : List TUsageRecord) : Option (List TUsageRecord) :=
  bif apOk 32 (([] : List TUsageRecord) ++ a0).length then (some (([] : List TUsageRecord) ++ a0)) else none
theorem sl18Copy_c {a0 : List TUsageRecord} {r : List TUsageRecord} (H : sl18Copy a0 = some r) : Fn Tryd.prog 27 [aL (a0.map eTUsageRecord)] [.c (.own 48 4 (r.map eTUsageRecord) r.length)] := by
  refine fn_in Tryd.func27 rfl (by kernel_rfl) Tryd.ntmps27 rfl rfl rfl ?_
  refine wk ?_
  obtain ⟨h, H⟩ := rq H
  refine awr_step rfl (apT (enc := eTUsageRecord) (ys := ([] : List TUsageRecord)) (zs := a0) h rfl (fun _ => rfl) (by first | rfl | simp) .d rfl rfl rfl rfl rfl rfl rfl rfl) ?_
  refine awr_weak (weak_flat (enc := eTUsageRecord) (o := 0) rfl (fun _ => rfl)) ?_
  refine wk ?_
  cases H
  exact fin_ret (.cons (.tmp rfl) .nil) rfl rfl (by first | rfl | simp)
def sl1In (a0 : Int) (a1 : Int) (a2 : Int) : Option Bool :=
  Option.bind (bif leB a1 a0 then (some (leB a0 a2)) else (some false)) fun (v1 : Bool) => some v1
theorem sl1In_c {a0 : Int} {a1 : Int} {a2 : Int} {r : Bool} (H : sl1In a0 a1 a2 = some r) : Fn Tryd.prog 32 [aI a0, aI a1, aI a2] [.c (.d (.b r))] := by
  refine fn_in Tryd.func32 rfl (by kernel_rfl) Tryd.ntmps32 rfl rfl rfl ?_
  refine wk ?_
  obtain ⟨v1, Hj, H⟩ := ob H
  refine awr_join ⟨[(6, tB v1)], [], 0⟩ ?_ ?_
  · have H := Hj
    refine wk ?_
    refine g2 rfl rfl rfl (fun h => ?_) (fun h => ?_)
    · have H := bt h H
      refine wk ?_
      cases H
      exact weak_of ⟨rfl, rfl, trivial⟩ trivial
    · have H := bf h H
      refine wk ?_
      cases H
      exact weak_of ⟨rfl, rfl, trivial⟩ trivial
  refine wk ?_
  cases H
  exact fin_ret (.cons (.tmp rfl) .nil) rfl rfl rfl
def sIsValidRecord (a0 : TUsageRecord) : Option Bool :=
  Option.bind (sl1In a0.Network 0 3) fun r1 => Option.bind (bif r1 then (bif leB 0 a0.SessionID then (Option.bind (sl1In a0.Seq 1 100000) fun r3 => bif r3 then (Option.bind (sl1In a0.Bytes 0 100000) fun r4 => some r4) else (some false)) else (some false)) else (some false)) fun (v2 : Bool) => some v2
theorem sIsValidRecord_c {a0 : TUsageRecord} {r : Bool} (H : sIsValidRecord a0 = some r) : Fn Tryd.prog 47 [.agg (eTUsageRecord a0)] [.c (.d (.b r))] := by
  refine fn_in Tryd.func47 rfl (by kernel_rfl) Tryd.ntmps47 rfl rfl rfl ?_
  refine wk ?_
  obtain ⟨r1, hr1, H⟩ := ob H
  refine awr_n rfl (ca rfl rfl rfl (sl1In_c hr1) trivial rfl rfl rfl rfl) ?_
  refine wk ?_
  obtain ⟨v2, Hj, H⟩ := ob H
  refine awr_join ⟨[(2, tB v2)], [], 0⟩ ?_ ?_
  · have H := Hj
    refine wk ?_
    refine g2 rfl rfl rfl (fun h => ?_) (fun h => ?_)
    · have H := bt h H
      refine wk ?_
      refine g2 rfl rfl rfl (fun h => ?_) (fun h => ?_)
      · have H := bt h H
        refine wk ?_
        obtain ⟨r3, hr3, H⟩ := ob H
        refine awr_ng rfl rfl rfl rfl (ca rfl rfl rfl (sl1In_c hr3) trivial rfl rfl rfl rfl) ?_
        refine wk ?_
        refine g2 rfl rfl rfl (fun h => ?_) (fun h => ?_)
        · have H := bt h H
          refine wk ?_
          obtain ⟨r4, hr4, H⟩ := ob H
          refine awr_ng rfl rfl rfl rfl (ca rfl rfl rfl (sl1In_c hr4) trivial rfl rfl rfl rfl) ?_
          refine wk ?_
          cases H
          exact weak_of ⟨rfl, rfl, trivial⟩ trivial
        · have H := bf h H
          refine wk ?_
          cases H
          exact weak_of ⟨rfl, rfl, trivial⟩ trivial
      · have H := bf h H
        refine wk ?_
        cases H
        exact weak_of ⟨rfl, rfl, trivial⟩ trivial
    · have H := bf h H
      refine wk ?_
      cases H
      exact weak_of ⟨rfl, rfl, trivial⟩ trivial
  refine wk ?_
  cases H
  exact fin_ret (.cons (.tmp rfl) .nil) rfl rfl rfl
def sFindRecord_L1 (a0 : List TUsageRecord) (a1 : TUsageRecord) : Int → Option (Step (Int) (Int))
  | v1 => bif ltB v1 ((a0.length : Nat) : Int) then (Option.bind (ix a0 v1) fun x2 => Option.bind (bif eqB x2.Network a1.Network then (Option.bind (ix a0 v1) fun x4 => bif eqB x4.SessionID a1.SessionID then (Option.bind (ix a0 v1) fun x5 => some (eqB x5.Seq a1.Seq)) else (some false)) else (some false)) fun (v3 : Bool) => bif v3 then (dn (some v1)) else (some (.next (WR (v1 + 1))))) else (dn (some (-1)))
def sFindRecord (a0 : List TUsageRecord) (a1 : TUsageRecord) : Option Int :=
  iter (sFindRecord_L1 a0 a1) FU 0
theorem sFindRecord_c {a0 : List TUsageRecord} {a1 : TUsageRecord} {r : Int} (H : sFindRecord a0 a1 = some r) : Fn Tryd.prog 48 [aL (a0.map eTUsageRecord), .agg (eTUsageRecord a1)] [.c (.d (.i .i64 r))] := by
  refine fn_in Tryd.func48 rfl (by kernel_rfl) Tryd.ntmps48 rfl rfl rfl ?_
  refine wkd ?_
  refine awc_iter (fun (q : Int) => ⟨[(0, .v (.c (.d false (.l (a0.map eTUsageRecord))))), (3, .v (.c (.p 0 0))), (5, tI q)], [(0, .var 48 [.d false (.i .i64 a1.Network), .d false (.i .i64 a1.SessionID), .d false (.i .i64 a1.Seq), .d false (.i .i64 a1.Bytes)])], 1⟩) H (weak_of ⟨rfl, rfl, rfl, rfl, rfl, rfl, trivial⟩ ⟨rfl, ⟨rfl, rfl⟩, trivial⟩) ?_
  rintro v1 o H
  try dsimp only
  refine wkd ?_
  refine awc_cond rfl (fun h => ?_) (fun h => ?_)
  · have H := bt h H
    refine wkd ?_
    obtain ⟨x2, hx2, H⟩ := ob H
    refine dr_n rfl (xdT (enc := eTUsageRecord) hx2 (fun _ => rfl) rfl rfl rfl) ?_
    refine wkd ?_
    obtain ⟨v3, Hj, H⟩ := ob H
    refine dr_join ⟨[(0, .v (.c (.d false (.l (a0.map eTUsageRecord))))), (3, .v (.c (.p 0 0))), (5, tI v1), (39, tB v3)], [(0, .var 48 [.d false (.i .i64 a1.Network), .d false (.i .i64 a1.SessionID), .d false (.i .i64 a1.Seq), .d false (.i .i64 a1.Bytes)])], 1⟩ ?_ ?_
    · have H := Hj
      refine wkd ?_
      refine dg2 rfl rfl rfl (fun h => ?_) (fun h => ?_)
      · have H := bt h H
        refine wkd ?_
        obtain ⟨x4, hx4, H⟩ := ob H
        refine dr_ng rfl rfl rfl rfl (xdT (enc := eTUsageRecord) hx4 (fun _ => rfl) rfl rfl rfl) ?_
        refine wkd ?_
        refine dg2 rfl rfl rfl (fun h => ?_) (fun h => ?_)
        · have H := bt h H
          refine wkd ?_
          obtain ⟨x5, hx5, H⟩ := ob H
          refine dr_ng rfl rfl rfl rfl (xdT (enc := eTUsageRecord) hx5 (fun _ => rfl) rfl rfl rfl) ?_
          refine wkd ?_
          cases H
          exact weak_of ⟨rfl, rfl, rfl, rfl, rfl, rfl, rfl, rfl, trivial⟩ ⟨rfl, ⟨rfl, rfl⟩, trivial⟩
        · have H := bf h H
          refine wkd ?_
          cases H
          exact weak_of ⟨rfl, rfl, rfl, rfl, rfl, rfl, rfl, rfl, trivial⟩ ⟨rfl, ⟨rfl, rfl⟩, trivial⟩
      · have H := bf h H
        refine wkd ?_
        cases H
        exact weak_of ⟨rfl, rfl, rfl, rfl, rfl, rfl, rfl, rfl, trivial⟩ ⟨rfl, ⟨rfl, rfl⟩, trivial⟩
    refine wkd ?_
    refine awc_cond rfl (fun h => ?_) (fun h => ?_)
    · have H := bt h H
      refine wkd ?_
      obtain ⟨r0, Hd, rfl⟩ := dnE H
      refine iq_r (fun hq => ?_)
      have H := Hd.trans (congrArg some hq)
      refine wkd ?_
      cases H
      exact fin_ret (.cons (.tmp rfl) .nil) rfl rfl rfl
    · have H := bf h H
      refine wkd ?_
      cases H
      refine iq_n ?_
      exact weak_of ⟨rfl, rfl, rfl, rfl, rfl, rfl, trivial⟩ ⟨rfl, ⟨rfl, rfl⟩, trivial⟩
  · have H := bf h H
    refine wkd ?_
    obtain ⟨r0, Hd, rfl⟩ := dnE H
    refine iq_e (fun hq => ?_)
    have H := Hd.trans (congrArg some hq)
    refine wkd ?_
    cases H
    exact fin_ret (.cons (.tmp rfl) .nil) rfl rfl rfl
def sAreValidRecords_L1 (a0 : List TUsageRecord) : Int → Option (Step (Int) (Bool))
  | v1 => bif ltB v1 ((a0.length : Nat) : Int) then (Option.bind (ix a0 v1) fun x2 => Option.bind (sIsValidRecord x2) fun r3 => Option.bind (bif !r3 then (some true) else (bif slOk a0 0 v1 then (Option.bind (ix a0 v1) fun x5 => Option.bind (sFindRecord (a0.take (v1).toNat) x5) fun r6 => some (leB 0 r6)) else none)) fun (v4 : Bool) => bif v4 then (dn (some false)) else (some (.next (WR (v1 + 1))))) else (dn (some (leB ((a0.length : Nat) : Int) 24)))
def sAreValidRecords (a0 : List TUsageRecord) : Option Bool :=
  iter (sAreValidRecords_L1 a0) FU 0
theorem sAreValidRecords_c {a0 : List TUsageRecord} {r : Bool} (H : sAreValidRecords a0 = some r) : Fn Tryd.prog 33 [aL (a0.map eTUsageRecord)] [.c (.d (.b r))] := by
  refine fn_in Tryd.func33 rfl (by kernel_rfl) Tryd.ntmps33 rfl rfl rfl ?_
  refine wkd ?_
  refine awc_iter (fun (q : Int) => ⟨[(0, .v (.c (.d false (.l (a0.map eTUsageRecord))))), (3, tI q)], [], 0⟩) H (weak_of ⟨rfl, rfl, rfl, rfl, trivial⟩ trivial) ?_
  rintro v1 o H
  try dsimp only
  refine wkd ?_
  refine awc_cond rfl (fun h => ?_) (fun h => ?_)
  · have H := bt h H
    refine wkd ?_
    obtain ⟨x2, hx2, H⟩ := ob H
    refine dr_n rfl (xdT (enc := eTUsageRecord) hx2 (fun _ => rfl) rfl rfl rfl) ?_
    refine wkd ?_
    obtain ⟨r3, hr3, H⟩ := ob H
    refine dr_n rfl (ca rfl rfl rfl (sIsValidRecord_c hr3) trivial rfl rfl rfl rfl) ?_
    refine wkd ?_
    obtain ⟨v4, Hj, H⟩ := ob H
    refine dr_join ⟨[(0, .v (.c (.d false (.l (a0.map eTUsageRecord))))), (3, tI v1), (26, tB v4)], [], 0⟩ ?_ ?_
    · have H := Hj
      refine wkd ?_
      refine dg2 rfl rfl rfl (fun h => ?_) (fun h => ?_)
      · have H := bt h H
        refine wkd ?_
        cases H
        exact weak_of ⟨rfl, rfl, rfl, rfl, rfl, rfl, trivial⟩ trivial
      · have H := bf h H
        refine wkd ?_
        obtain ⟨h, H⟩ := rq H
        refine dr_ng rfl rfl rfl rfl (cdhT (enc := eTUsageRecord) h (fun _ => rfl) rfl rfl rfl) ?_
        refine wkd ?_
        obtain ⟨x5, hx5, H⟩ := ob H
        refine dr_ng rfl rfl rfl rfl (xdT (enc := eTUsageRecord) hx5 (fun _ => rfl) rfl rfl rfl) ?_
        refine wkd ?_
        obtain ⟨r6, hr6, H⟩ := ob H
        refine dr_ng rfl rfl rfl rfl (ca rfl rfl rfl (sFindRecord_c hr6) trivial rfl rfl rfl rfl) ?_
        refine wkd ?_
        cases H
        exact weak_of ⟨rfl, rfl, rfl, rfl, rfl, rfl, trivial⟩ trivial
    refine wkd ?_
    refine awc_cond rfl (fun h => ?_) (fun h => ?_)
    · have H := bt h H
      refine wkd ?_
      obtain ⟨r0, Hd, rfl⟩ := dnE H
      refine iq_r (fun hq => ?_)
      have H := Hd.trans (congrArg some hq)
      refine wkd ?_
      cases H
      exact fin_ret (.cons (.tmp rfl) .nil) rfl rfl rfl
    · have H := bf h H
      refine wkd ?_
      cases H
      refine iq_n ?_
      exact weak_of ⟨rfl, rfl, rfl, rfl, trivial⟩ trivial
  · have H := bf h H
    refine wkd ?_
    obtain ⟨r0, Hd, rfl⟩ := dnE H
    refine iq_e (fun hq => ?_)
    have H := Hd.trans (congrArg some hq)
    refine wkd ?_
    cases H
    exact fin_ret (.cons (.tmp rfl) .nil) rfl rfl rfl
def sAppendRecord (a0 : List TUsageRecord) (a1 : TUsageRecord) : Option (List TUsageRecord × Bool) :=
  Option.bind (sl18Copy a0) fun r1 => bif apOk 32 (r1 ++ [a1]).length then (Option.bind (sAreValidRecords (r1 ++ [a1])) fun r2 => bif !r2 then (Option.bind (sl18Copy a0) fun r3 => some (r3, false)) else (some ((r1 ++ [a1]), true))) else none
theorem sAppendRecord_c {a0 : List TUsageRecord} {a1 : TUsageRecord} {r : List TUsageRecord × Bool} (H : sAppendRecord a0 a1 = some r) : Fn Tryd.prog 43 [aL (a0.map eTUsageRecord), .agg (eTUsageRecord a1)] [.c (.own 48 4 (r.1.map eTUsageRecord) r.1.length), .c (.d (.b r.2))] := by
  refine fn_in Tryd.func43 rfl (by kernel_rfl) Tryd.ntmps43 rfl rfl rfl ?_
  refine wkz ?_
  refine awc_dz [0, 1, 2, 3, 4, 5] Try.follows (by kernel_rfl) (by kernel_rfl) rfl ?_
  refine wkz ?_
  obtain ⟨r1, hr1, H⟩ := ob H
  refine dz_n rfl (ca rfl rfl rfl (sl18Copy_c hr1) trivial rfl rfl rfl rfl) ?_
  refine wkz ?_
  obtain ⟨h, H⟩ := rq H
  refine dz_w rfl (apxF (enc := eTUsageRecord) (ys := r1) (zs := [a1]) [1, 2] h rfl (fun _ => rfl) (fun _ => rfl) (by first | rfl | simp) rfl (.w rfl (by first | rfl | exact lm _ | simp)) rfl rfl rfl rfl rfl rfl) ?_
  refine wkz ?_
  refine dz_nilk (ds := [1]) (by kernel_rfl) (by kernel_rfl) rfl ?_
  refine wkz ?_
  obtain ⟨r2, hr2, H⟩ := ob H
  refine awr_n rfl (ca rfl rfl rfl (sAreValidRecords_c hr2) ⟨by first | rfl | exact lm _, trivial⟩ rfl rfl rfl rfl) ?_
  refine wkz ?_
  refine awc_cond rfl (fun h => ?_) (fun h => ?_)
  · have H := bt h H
    refine wkz ?_
    obtain ⟨r3, hr3, H⟩ := ob H
    refine awr_n rfl (ca rfl rfl rfl (sl18Copy_c hr3) trivial rfl rfl rfl rfl) ?_
    refine wkz ?_
    cases H
    exact fin_ret (.cons (.tmp rfl) (.cons (.tmp rfl) .nil)) rfl rfl (by first | rfl | simp)
  · have H := bf h H
    refine wkz ?_
    cases H
    exact fin_ret (.cons (.tmp rfl) (.cons (.tmp rfl) .nil)) rfl rfl (by first | rfl | simp)
def sl18One (a0 : Tl1Cur) : Option (TUsageRecord × Tl1Cur) :=
  Option.bind (sl1Below a0 3) fun r1 => Option.bind (sl1Below r1.2 2) fun r2 => Option.bind (sl1Below r2.2 6) fun r3 => Option.bind (sl1Below r3.2 20) fun r4 => some ((⟨r1.1, r2.1, WR (1 + r3.1), r4.1⟩ : TUsageRecord), r4.2)
theorem sl18One_c {a0 : Tl1Cur} {r : TUsageRecord × Tl1Cur} (H : sl18One a0 = some r) : FnW Tryd.prog 44 (.var 56 [.d false (.l (a0.fb.map eU8)), .d false (.i .i64 a0.fi), .d false (.i .i64 a0.fh)]) [.v (.c (.p 200 0))] (.var 56 [.d false (.l (r.2.fb.map eU8)), .d false (.i .i64 r.2.fi), .d false (.i .i64 r.2.fh)]) [.agg [.d (.i .i64 r.1.Network), .d (.i .i64 r.1.SessionID), .d (.i .i64 r.1.Seq), .d (.i .i64 r.1.Bytes)]] := by
  refine fn_inW Tryd.func44 rfl (by kernel_rfl) Tryd.ntmps44 rfl rfl rfl rfl rfl ?_
  refine wk ?_
  obtain ⟨r1, hr1, H⟩ := ob H
  refine awr_step rfl (cw (o := 200) (sl1Below_c hr1) rfl rfl rfl rfl rfl rfl trivial rfl rfl rfl rfl) ?_
  refine wk ?_
  obtain ⟨r2, hr2, H⟩ := ob H
  refine awr_step rfl (cw (o := 200) (sl1Below_c hr2) rfl rfl rfl rfl rfl rfl trivial rfl rfl rfl rfl) ?_
  refine wk ?_
  obtain ⟨r3, hr3, H⟩ := ob H
  refine awr_step rfl (cw (o := 200) (sl1Below_c hr3) rfl rfl rfl rfl rfl rfl trivial rfl rfl rfl rfl) ?_
  refine wk ?_
  obtain ⟨r4, hr4, H⟩ := ob H
  refine awr_step rfl (cw (o := 200) (sl1Below_c hr4) rfl rfl rfl rfl rfl rfl trivial rfl rfl rfl rfl) ?_
  refine wk ?_
  cases H
  exact fin_retW (.cons (.cell rfl rfl rfl) .nil) rfl rfl rfl rfl (by first | rfl | simp)
def sl18Draw_L1  : (Int × List Int × Int × Int × List TUsageRecord) → Option (Step (Int × List Int × Int × Int × List TUsageRecord) (List Int × Int × Int × List TUsageRecord))
  | (v2, v3, v4, v5, v6) => bif ltB 0 v2 then (Option.bind (sl18One (⟨v3, v4, v5⟩ : Tl1Cur)) fun r13 => Option.bind (sAppendRecord v6 r13.1) fun r14 => some (.next (WR (v2 - 1), r13.2.fb, r13.2.fi, r13.2.fh, r14.1))) else (some (.done (v3, v4, v5, v6)))
def sl18Draw (a0 : Tl1Cur) : Option (List TUsageRecord × Tl1Cur) :=
  Option.bind (sl1Below a0 9) fun r1 => Option.bind (iter (sl18Draw_L1) FU (r1.1, r1.2.fb, r1.2.fi, r1.2.fh, ([] : List TUsageRecord))) fun ((v9, v10, v11, v12) : List Int × Int × Int × List TUsageRecord) => some (v12, (⟨v9, v10, v11⟩ : Tl1Cur))
theorem sl18Draw_c {a0 : Tl1Cur} {r : List TUsageRecord × Tl1Cur} (H : sl18Draw a0 = some r) : FnW Tryd.prog 25 (.var 56 [.d false (.l (a0.fb.map eU8)), .d false (.i .i64 a0.fi), .d false (.i .i64 a0.fh)]) [.v (.c (.p 200 0))] (.var 56 [.d false (.l (r.2.fb.map eU8)), .d false (.i .i64 r.2.fi), .d false (.i .i64 r.2.fh)]) [.c (.own 48 4 (r.1.map eTUsageRecord) r.1.length)] := by
  refine fn_inW Tryd.func25 rfl (by kernel_rfl) Tryd.ntmps25 rfl rfl rfl rfl rfl ?_
  refine wk ?_
  obtain ⟨r1, hr1, H⟩ := ob H
  refine awr_step rfl (cw (o := 200) (sl1Below_c hr1) rfl rfl rfl rfl rfl rfl trivial rfl rfl rfl rfl) ?_
  refine wk ?_
  obtain ⟨⟨v9, v10, v11, v12⟩, Hj, H⟩ := ob H
  refine awc_jblk ⟨[(3, .v (.c (.w 210 v12.length)))], [(200, .var 56 [.d false (.l (v9.map eU8)), .d false (.i .i64 v10), .d false (.i .i64 v11)]), (210, .row 48 4 (v12.map eTUsageRecord) true true)], 211⟩ ?_ ?_
  · refine wk ?_
    refine awc_iter (fun (q : Int × List Int × Int × Int × List TUsageRecord) => ⟨[(0, .v (.c (.p 200 0))), (3, .v (.c (.w 210 q.2.2.2.2.length))), (4, tI q.1)], [(200, .var 56 [.d false (.l (q.2.1.map eU8)), .d false (.i .i64 q.2.2.1), .d false (.i .i64 q.2.2.2.1)]), (210, .row 48 4 (q.2.2.2.2.map eTUsageRecord) true true)], 211⟩) Hj (weak_of ⟨rfl, rfl, wn rfl (by first | rfl | simp), rfl, rfl, rfl, trivial⟩ ⟨rfl, ⟨rfl, rfl⟩, rfl, ⟨rfl, rfl⟩, trivial⟩) ?_
    rintro ⟨v2, v3, v4, v5, v6⟩ o H
    try dsimp only
    refine wk ?_
    refine awc_cond rfl (fun h => ?_) (fun h => ?_)
    · have H := bt h H
      refine wk ?_
      obtain ⟨r13, hr13, H⟩ := ob H
      refine awr_step rfl (cw (o := 200) (sl18One_c hr13) rfl rfl rfl rfl rfl rfl trivial rfl rfl rfl rfl) ?_
      refine wk ?_
      obtain ⟨r14, hr14, H⟩ := ob H
      refine awr_n rfl (ca rfl rfl rfl (sAppendRecord_c hr14) ⟨by first | rfl | exact lm _, trivial⟩ rfl rfl rfl rfl) ?_
      refine wk ?_
      cases H
      refine iq_n ?_
      refine weak_trans (weak_swp (p := 210) (q := 211) rfl rfl rfl rfl) ?_
      exact weak_of ⟨rfl, rfl, wn rfl (by first | rfl | simp), rfl, rfl, rfl, trivial⟩ ⟨rfl, ⟨rfl, rfl⟩, rfl, ⟨rfl, rfl⟩, trivial⟩
    · have H := bf h H
      refine wk ?_
      cases H
      refine iq_e (fun hq => ?_)
      cases hq
      refine wk ?_
      exact weak_of ⟨wn rfl (by first | rfl | simp), rfl, trivial⟩ ⟨rfl, ⟨rfl, rfl⟩, rfl, ⟨rfl, rfl⟩, trivial⟩
  refine wk ?_
  cases H
  exact fin_retW (.cons (.tmp rfl) .nil) rfl rfl (by first | rfl | simp) rfl (by first | rfl | simp)
def sl1Once (a0 : Tl1Cur) (a1 : Int) : Option (Bool × Tl1Cur) :=
  Option.bind (sl1Below a0 a1) fun r1 => some (eqB r1.1 0, r1.2)
theorem sl1Once_c {a0 : Tl1Cur} {a1 : Int} {r : Bool × Tl1Cur} (H : sl1Once a0 a1 = some r) : FnW Tryd.prog 26 (.var 56 [.d false (.l (a0.fb.map eU8)), .d false (.i .i64 a0.fi), .d false (.i .i64 a0.fh)]) [.v (.c (.p 200 0)), tI a1] (.var 56 [.d false (.l (r.2.fb.map eU8)), .d false (.i .i64 r.2.fi), .d false (.i .i64 r.2.fh)]) [.c (.d (.b r.1))] := by
  refine fn_inW Tryd.func26 rfl (by kernel_rfl) Tryd.ntmps26 rfl rfl rfl rfl rfl ?_
  refine wk ?_
  obtain ⟨r1, hr1, H⟩ := ob H
  refine awr_step rfl (cw (o := 200) (sl1Below_c hr1) rfl rfl rfl rfl rfl rfl trivial rfl rfl rfl rfl) ?_
  refine wk ?_
  cases H
  exact fin_retW (.cons (.tmp rfl) .nil) rfl rfl rfl rfl (by first | rfl | simp)
def sl38Own_L1 (a0 : List TUsageRecord) (a1 : Int) : (Int × List TUsageRecord) → Option (Step (Int × List TUsageRecord) (List TUsageRecord))
  | (v1, v2) => bif ltB v1 ((a0.length : Nat) : Int) then (Option.bind (ix a0 v1) fun x7 => Option.bind (bif eqB x7.Network a1 then (Option.bind (ix a0 v1) fun x9 => bif apOk 32 (v2 ++ [x9]).length then (some (v2 ++ [x9])) else none) else (some v2)) fun (v8 : List TUsageRecord) => some (.next (WR (v1 + 1), v8))) else (some (.done v2))
def sl38Own (a0 : List TUsageRecord) (a1 : Int) : Option (List TUsageRecord) :=
  Option.bind (iter (sl38Own_L1 a0 a1) FU (0, ([] : List TUsageRecord))) fun (v6 : List TUsageRecord) => some v6
theorem sl38Own_c {a0 : List TUsageRecord} {a1 : Int} {r : List TUsageRecord} (H : sl38Own a0 a1 = some r) : Fn Tryd.prog 28 [aL (a0.map eTUsageRecord), aI a1] [.c (.own 48 4 (r.map eTUsageRecord) r.length)] := by
  refine fn_in Tryd.func28 rfl (by kernel_rfl) Tryd.ntmps28 rfl rfl rfl ?_
  refine wk ?_
  obtain ⟨v6, Hj, H⟩ := ob H
  refine awc_jblk ⟨[(5, .v (.c (.w 0 v6.length)))], [(0, .row 48 4 (v6.map eTUsageRecord) true true)], 1⟩ ?_ ?_
  · refine wk ?_
    refine awc_iter (fun (q : Int × List TUsageRecord) => ⟨[(0, .v (.c (.d false (.l (a0.map eTUsageRecord))))), (1, tI a1), (5, .v (.c (.w 0 q.2.length))), (6, tI q.1)], [(0, .row 48 4 (q.2.map eTUsageRecord) true true)], 1⟩) Hj (weak_of ⟨rfl, rfl, rfl, rfl, wn rfl (by first | rfl | simp), rfl, rfl, rfl, trivial⟩ ⟨rfl, ⟨rfl, rfl⟩, trivial⟩) ?_
    rintro ⟨v1, v2⟩ o H
    try dsimp only
    refine wk ?_
    refine awc_cond rfl (fun h => ?_) (fun h => ?_)
    · have H := bt h H
      refine wk ?_
      obtain ⟨x7, hx7, H⟩ := ob H
      refine awr_n rfl (xdT (enc := eTUsageRecord) hx7 (fun _ => rfl) rfl rfl rfl) ?_
      refine wk ?_
      obtain ⟨v8, Hj, H⟩ := ob H
      refine awc_join ⟨[(0, .v (.c (.d false (.l (a0.map eTUsageRecord))))), (1, tI a1), (5, .v (.c (.w 0 v8.length))), (6, tI v1)], [(0, .row 48 4 (v8.map eTUsageRecord) true true)], 1⟩ ?_ ?_
      · have H := Hj
        refine wk ?_
        refine awc_cond rfl (fun h => ?_) (fun h => ?_)
        · have H := bt h H
          refine wk ?_
          obtain ⟨x9, hx9, H⟩ := ob H
          refine awr_n rfl (xdT (enc := eTUsageRecord) hx9 (fun _ => rfl) rfl rfl rfl) ?_
          refine wk ?_
          obtain ⟨h, H⟩ := rq H
          refine awr_step rfl (apT (enc := eTUsageRecord) (ys := v2) (zs := [x9]) h rfl (fun _ => rfl) (by first | rfl | simp) (.w rfl (by first | rfl | exact lm _ | simp)) rfl rfl rfl rfl rfl rfl rfl rfl) ?_
          refine wk ?_
          cases H
          exact weak_of ⟨rfl, rfl, rfl, rfl, wn rfl (by first | rfl | simp), rfl, rfl, rfl, trivial⟩ ⟨rfl, ⟨rfl, rfl⟩, trivial⟩
        · have H := bf h H
          refine wk ?_
          cases H
          exact weak_of ⟨rfl, rfl, rfl, rfl, wn rfl (by first | rfl | simp), rfl, rfl, rfl, trivial⟩ ⟨rfl, ⟨rfl, rfl⟩, trivial⟩
      refine wk ?_
      cases H
      refine iq_n ?_
      exact weak_of ⟨rfl, rfl, rfl, rfl, wn rfl (by first | rfl | simp), rfl, rfl, rfl, trivial⟩ ⟨rfl, ⟨rfl, rfl⟩, trivial⟩
    · have H := bf h H
      refine wk ?_
      cases H
      refine iq_e (fun hq => ?_)
      cases hq
      refine wk ?_
      exact weak_of ⟨wn rfl (by first | rfl | simp), rfl, trivial⟩ ⟨rfl, ⟨rfl, rfl⟩, trivial⟩
  refine wk ?_
  cases H
  exact fin_ret (.cons (.tmp rfl) .nil) rfl rfl (by first | rfl | simp)
def sl38Books_L1 (r1 : List TUsageRecord × Tl1Cur) : (Int × List Int × Int × Int × List TOperatorBook) → Option (Step (Int × List Int × Int × Int × List TOperatorBook) (List Int × Int × Int × List TOperatorBook))
  | (v2, v3, v4, v5, v6) => bif ltB v2 3 then (Option.bind (sl1Once (⟨v3, v4, v5⟩ : Tl1Cur) 6) fun r15 => Option.bind (bif !r15.1 then (Option.bind (sl18Copy r1.1) fun r17 => Option.bind (sl38Own r1.1 v2) fun r18 => bif apOk 56 (v6 ++ [(⟨v2, r17, r18⟩ : TOperatorBook)]).length then (some (v6 ++ [(⟨v2, r17, r18⟩ : TOperatorBook)])) else none) else (some v6)) fun (v16 : List TOperatorBook) => some (.next (WR (v2 + 1), r15.2.fb, r15.2.fi, r15.2.fh, v16))) else (some (.done (v3, v4, v5, v6)))
def sl38Books (a0 : Tl1Cur) : Option (List TOperatorBook × Tl1Cur) :=
  Option.bind (sl18Draw a0) fun r1 => Option.bind (iter (sl38Books_L1 r1) FU (0, r1.2.fb, r1.2.fi, r1.2.fh, ([] : List TOperatorBook))) fun ((v11, v12, v13, v14) : List Int × Int × Int × List TOperatorBook) => some (v14, (⟨v11, v12, v13⟩ : Tl1Cur))
theorem sl38Books_c {a0 : Tl1Cur} {r : List TOperatorBook × Tl1Cur} (H : sl38Books a0 = some r) : FnW Tryd.prog 13 (.var 56 [.d false (.l (a0.fb.map eU8)), .d false (.i .i64 a0.fi), .d false (.i .i64 a0.fh)]) [.v (.c (.p 200 0))] (.var 56 [.d false (.l (r.2.fb.map eU8)), .d false (.i .i64 r.2.fi), .d false (.i .i64 r.2.fh)]) [.c (.own 36 3 (r.1.map eTOperatorBook) r.1.length)] := by
  refine fn_inW Tryd.func13 rfl (by kernel_rfl) Tryd.ntmps13 rfl rfl rfl rfl rfl ?_
  refine wk ?_
  obtain ⟨r1, hr1, H⟩ := ob H
  refine awr_step rfl (cw (o := 200) (sl18Draw_c hr1) rfl rfl rfl rfl rfl rfl trivial rfl rfl rfl rfl) ?_
  refine wk ?_
  obtain ⟨⟨v11, v12, v13, v14⟩, Hj, H⟩ := ob H
  refine awc_jblk ⟨[(3, .v (.c (.w 210 v14.length)))], [(200, .var 56 [.d false (.l (v11.map eU8)), .d false (.i .i64 v12), .d false (.i .i64 v13)]), (210, .row 36 3 (v14.map eTOperatorBook) true true)], 211⟩ ?_ ?_
  · refine wk ?_
    refine awc_iter (fun (q : Int × List Int × Int × Int × List TOperatorBook) => ⟨[(0, .v (.c (.p 200 0))), (3, .v (.c (.w 210 q.2.2.2.2.length))), (4, .v (.c (.w 211 r1.1.length))), (5, tI q.1)], [(200, .var 56 [.d false (.l (q.2.1.map eU8)), .d false (.i .i64 q.2.2.1), .d false (.i .i64 q.2.2.2.1)]), (210, .row 36 3 (q.2.2.2.2.map eTOperatorBook) true true), (211, .row 48 4 (r1.1.map eTUsageRecord) true true)], 212⟩) Hj (weak_of ⟨rfl, rfl, wn rfl (by first | rfl | simp), rfl, wn rfl (by first | rfl | simp), rfl, rfl, rfl, trivial⟩ ⟨rfl, ⟨rfl, rfl⟩, rfl, ⟨rfl, rfl⟩, rfl, ⟨rfl, rfl⟩, trivial⟩) ?_
    rintro ⟨v2, v3, v4, v5, v6⟩ o H
    try dsimp only
    refine wk ?_
    refine awc_cond rfl (fun h => ?_) (fun h => ?_)
    · have H := bt h H
      refine wk ?_
      obtain ⟨r15, hr15, H⟩ := ob H
      refine awr_step rfl (cw (o := 200) (sl1Once_c hr15) rfl rfl rfl rfl rfl rfl trivial rfl rfl rfl rfl) ?_
      refine wk ?_
      obtain ⟨v16, Hj, H⟩ := ob H
      refine awc_join ⟨[(0, .v (.c (.p 200 0))), (3, .v (.c (.w 210 v16.length))), (4, .v (.c (.w 211 r1.1.length))), (5, tI v2)], [(200, .var 56 [.d false (.l (r15.2.fb.map eU8)), .d false (.i .i64 r15.2.fi), .d false (.i .i64 r15.2.fh)]), (210, .row 36 3 (v16.map eTOperatorBook) true true), (211, .row 48 4 (r1.1.map eTUsageRecord) true true)], 212⟩ ?_ ?_
      · have H := Hj
        refine wk ?_
        refine awc_cond rfl (fun h => ?_) (fun h => ?_)
        · have H := bt h H
          refine wk ?_
          obtain ⟨r17, hr17, H⟩ := ob H
          refine awr_n rfl (ca rfl rfl rfl (sl18Copy_c hr17) ⟨by first | rfl | exact lm _, trivial⟩ rfl rfl rfl rfl) ?_
          refine wk ?_
          obtain ⟨r18, hr18, H⟩ := ob H
          refine awr_n rfl (ca rfl rfl rfl (sl38Own_c hr18) ⟨by first | rfl | exact lm _, trivial⟩ rfl rfl rfl rfl) ?_
          refine wk ?_
          refine awr_weak (weak_frz (o := 212) rfl rfl) ?_
          refine awr_weak (weak_frz (o := 213) rfl rfl) ?_
          refine awr_weak (weak_cast (k := 23) rfl rfl ⟨by first | rfl | simp, by first | rfl | simp, trivial⟩) ?_
          refine wk ?_
          obtain ⟨h, H⟩ := rq H
          refine awr_step rfl (apT (enc := eTOperatorBook) (ys := v6) (zs := [(⟨v2, r17, r18⟩ : TOperatorBook)]) h rfl (fun _ => rfl) (by first | rfl | simp) (.w rfl (by first | rfl | exact lm _ | simp)) rfl rfl rfl rfl rfl rfl rfl rfl) ?_
          refine wk ?_
          cases H
          exact weak_of ⟨rfl, rfl, wn rfl (by first | rfl | simp), rfl, wn rfl (by first | rfl | simp), rfl, rfl, rfl, trivial⟩ ⟨rfl, ⟨rfl, rfl⟩, rfl, ⟨rfl, rfl⟩, rfl, ⟨rfl, rfl⟩, trivial⟩
        · have H := bf h H
          refine wk ?_
          cases H
          exact weak_of ⟨rfl, rfl, wn rfl (by first | rfl | simp), rfl, wn rfl (by first | rfl | simp), rfl, rfl, rfl, trivial⟩ ⟨rfl, ⟨rfl, rfl⟩, rfl, ⟨rfl, rfl⟩, rfl, ⟨rfl, rfl⟩, trivial⟩
      refine wk ?_
      cases H
      refine iq_n ?_
      exact weak_of ⟨rfl, rfl, wn rfl (by first | rfl | simp), rfl, wn rfl (by first | rfl | simp), rfl, rfl, rfl, trivial⟩ ⟨rfl, ⟨rfl, rfl⟩, rfl, ⟨rfl, rfl⟩, rfl, ⟨rfl, rfl⟩, trivial⟩
    · have H := bf h H
      refine wk ?_
      cases H
      refine iq_e (fun hq => ?_)
      cases hq
      refine wk ?_
      exact weak_of ⟨wn rfl (by first | rfl | simp), rfl, trivial⟩ ⟨rfl, ⟨rfl, rfl⟩, rfl, ⟨rfl, rfl⟩, trivial⟩
  refine wk ?_
  cases H
  exact fin_retW (.cons (.tmp rfl) .nil) rfl rfl (by first | rfl | simp) rfl (by first | rfl | simp)
def sl1Int (a0 : Tl1Cur) (a1 : List Int) : Option (Int × Tl1Cur) :=
  Option.bind (sl1Below a0 ((a1.length : Nat) : Int)) fun r1 => Option.bind (ix a1 r1.1) fun x2 => some (x2, r1.2)
theorem sl1Int_c {a0 : Tl1Cur} {a1 : List Int} {r : Int × Tl1Cur} (H : sl1Int a0 a1 = some r) : FnW Tryd.prog 46 (.var 56 [.d false (.l (a0.fb.map eU8)), .d false (.i .i64 a0.fi), .d false (.i .i64 a0.fh)]) [.v (.c (.p 200 0)), .v (.c (.d false (.l (a1.map eI))))] (.var 56 [.d false (.l (r.2.fb.map eU8)), .d false (.i .i64 r.2.fi), .d false (.i .i64 r.2.fh)]) [.c (.d (.i .i64 r.1))] := by
  refine fn_inW Tryd.func46 rfl (by kernel_rfl) Tryd.ntmps46 rfl rfl rfl rfl rfl ?_
  refine wk ?_
  obtain ⟨r1, hr1, H⟩ := ob H
  refine awr_step rfl (cw (o := 200) (sl1Below_c hr1) rfl rfl rfl rfl rfl rfl trivial rfl rfl rfl rfl) ?_
  refine wk ?_
  obtain ⟨x2, hx2, H⟩ := ob H
  refine awr_n rfl (xdT (enc := eI) hx2 (fun _ => rfl) rfl rfl rfl) ?_
  refine wk ?_
  cases H
  exact fin_retW (.cons (.tmp rfl) .nil) rfl rfl rfl rfl (by first | rfl | simp)
def sl19Deal (a0 : Tl1Cur) : Option (TRoamingAgreement × Tl1Cur) :=
  Option.bind (sl1Below a0 3) fun r1 => Option.bind (sl1Below r1.2 2) fun r2 => Option.bind (sl1Below r2.2 5) fun r3 => Option.bind (sl1Int r3.2 [0, 20, 100, 1000000]) fun r4 => some ((⟨r1.1, Int.tmod (WR ((WR (r1.1 + 1)) + r2.1)) 3, r3.1, r4.1⟩ : TRoamingAgreement), r4.2)
theorem sl19Deal_c {a0 : Tl1Cur} {r : TRoamingAgreement × Tl1Cur} (H : sl19Deal a0 = some r) : FnW Tryd.prog 30 (.var 56 [.d false (.l (a0.fb.map eU8)), .d false (.i .i64 a0.fi), .d false (.i .i64 a0.fh)]) [.v (.c (.p 200 0))] (.var 56 [.d false (.l (r.2.fb.map eU8)), .d false (.i .i64 r.2.fi), .d false (.i .i64 r.2.fh)]) [.agg [.d (.i .i64 r.1.Home), .d (.i .i64 r.1.Visited), .d (.i .i64 r.1.Price), .d (.i .i64 r.1.Cap)]] := by
  refine fn_inW Tryd.func30 rfl (by kernel_rfl) Tryd.ntmps30 rfl rfl rfl rfl rfl ?_
  refine wk ?_
  obtain ⟨r1, hr1, H⟩ := ob H
  refine awr_step rfl (cw (o := 200) (sl1Below_c hr1) rfl rfl rfl rfl rfl rfl trivial rfl rfl rfl rfl) ?_
  refine wk ?_
  obtain ⟨r2, hr2, H⟩ := ob H
  refine awr_step rfl (cw (o := 200) (sl1Below_c hr2) rfl rfl rfl rfl rfl rfl trivial rfl rfl rfl rfl) ?_
  refine wk ?_
  refine awr_n rfl (ir rfl rfl rfl (by decide)) ?_
  refine wk ?_
  obtain ⟨r3, hr3, H⟩ := ob H
  refine awr_step rfl (cw (o := 200) (sl1Below_c hr3) rfl rfl rfl rfl rfl rfl trivial rfl rfl rfl rfl) ?_
  refine wk ?_
  obtain ⟨r4, hr4, H⟩ := ob H
  refine awr_weak (weak_frz (o := 211) rfl rfl) ?_
  refine awr_weak (weak_cast (k := 16) rfl rfl ⟨by first | rfl | simp, trivial⟩) ?_
  refine awr_step rfl (cw (o := 200) (sl1Int_c hr4) rfl rfl rfl rfl rfl rfl trivial rfl rfl rfl rfl) ?_
  refine wk ?_
  cases H
  exact fin_retW (.cons (.cell rfl rfl rfl) .nil) rfl rfl rfl rfl (by first | rfl | simp)
def sl19Any (a0 : Tl1Cur) : Option (TRoamingAgreement × Tl1Cur) :=
  Option.bind (sl19Deal a0) fun r1 => Option.bind (sl1Below r1.2 8) fun r2 => Option.bind (bif eqB r2.1 0 then (Option.bind (sl1Int r2.2 [r1.1.Home, -1, 4]) fun r9 => some (r9.2.fb, r9.2.fi, r9.2.fh, r9.1, r1.1.Price, r1.1.Cap)) else (Option.bind (bif eqB r2.1 1 then (Option.bind (sl1Int r2.2 [-1, 1000, 1001]) fun r15 => some (r15.2.fb, r15.2.fi, r15.2.fh, r15.1, r1.1.Cap)) else (Option.bind (bif eqB r2.1 2 then (Option.bind (sl1Int r2.2 [-1, 1000000000000, 1000000000001]) fun r20 => some (r20.2.fb, r20.2.fi, r20.2.fh, r20.1)) else (some (r2.2.fb, r2.2.fi, r2.2.fh, r1.1.Cap))) fun ((v16, v17, v18, v19) : List Int × Int × Int × Int) => some (v16, v17, v18, r1.1.Price, v19))) fun ((v10, v11, v12, v13, v14) : List Int × Int × Int × Int × Int) => some (v10, v11, v12, r1.1.Visited, v13, v14))) fun ((v3, v4, v5, v6, v7, v8) : List Int × Int × Int × Int × Int × Int) => some ((⟨r1.1.Home, v6, v7, v8⟩ : TRoamingAgreement), (⟨v3, v4, v5⟩ : Tl1Cur))
theorem sl19Any_c {a0 : Tl1Cur} {r : TRoamingAgreement × Tl1Cur} (H : sl19Any a0 = some r) : FnW Tryd.prog 31 (.var 56 [.d false (.l (a0.fb.map eU8)), .d false (.i .i64 a0.fi), .d false (.i .i64 a0.fh)]) [.v (.c (.p 200 0))] (.var 56 [.d false (.l (r.2.fb.map eU8)), .d false (.i .i64 r.2.fi), .d false (.i .i64 r.2.fh)]) [.agg [.d (.i .i64 r.1.Home), .d (.i .i64 r.1.Visited), .d (.i .i64 r.1.Price), .d (.i .i64 r.1.Cap)]] := by
  refine fn_inW Tryd.func31 rfl (by kernel_rfl) Tryd.ntmps31 rfl rfl rfl rfl rfl ?_
  refine wk ?_
  obtain ⟨r1, hr1, H⟩ := ob H
  refine awr_step rfl (cw (o := 200) (sl19Deal_c hr1) rfl rfl rfl rfl rfl rfl trivial rfl rfl rfl rfl) ?_
  refine wk ?_
  obtain ⟨r2, hr2, H⟩ := ob H
  refine awr_step rfl (cw (o := 200) (sl1Below_c hr2) rfl rfl rfl rfl rfl rfl trivial rfl rfl rfl rfl) ?_
  refine wk ?_
  obtain ⟨⟨v3, v4, v5, v6, v7, v8⟩, Hj, H⟩ := ob H
  refine awc_join ⟨[(2, .v (.c (.p 210 0))), (3, .v (.c (.p 211 0)))], [(200, .var 56 [.d false (.l (v3.map eU8)), .d false (.i .i64 v4), .d false (.i .i64 v5)]), (210, .var 38 [.d false (.i .i64 0), .d false (.i .i64 0), .d false (.i .i64 0), .d false (.i .i64 0)]), (211, .var 38 [.d false (.i .i64 r1.1.Home), .d false (.i .i64 v6), .d false (.i .i64 v7), .d false (.i .i64 v8)])], 212⟩ ?_ ?_
  · have H := Hj
    refine wk ?_
    refine awc_cond rfl (fun h => ?_) (fun h => ?_)
    · have H := bt h H
      refine wk ?_
      obtain ⟨r9, hr9, H⟩ := ob H
      refine awr_weak (weak_frz (o := 212) rfl rfl) ?_
      refine awr_weak (weak_cast (k := 13) rfl rfl ⟨by first | rfl | simp, trivial⟩) ?_
      refine awr_step rfl (cw (o := 200) (sl1Int_c hr9) rfl rfl rfl rfl rfl rfl trivial rfl rfl rfl rfl) ?_
      refine wk ?_
      cases H
      exact weak_of ⟨rfl, rfl, rfl, rfl, trivial⟩ ⟨rfl, ⟨rfl, rfl⟩, rfl, ⟨rfl, rfl⟩, rfl, ⟨rfl, rfl⟩, trivial⟩
    · have H := bf h H
      refine wk ?_
      obtain ⟨⟨v10, v11, v12, v13, v14⟩, Hj, H⟩ := ob H
      refine awc_join ⟨[(2, .v (.c (.p 210 0))), (3, .v (.c (.p 211 0)))], [(200, .var 56 [.d false (.l (v10.map eU8)), .d false (.i .i64 v11), .d false (.i .i64 v12)]), (210, .var 38 [.d false (.i .i64 0), .d false (.i .i64 0), .d false (.i .i64 0), .d false (.i .i64 0)]), (211, .var 38 [.d false (.i .i64 r1.1.Home), .d false (.i .i64 r1.1.Visited), .d false (.i .i64 v13), .d false (.i .i64 v14)])], 212⟩ ?_ ?_
      · have H := Hj
        refine wk ?_
        refine awc_cond rfl (fun h => ?_) (fun h => ?_)
        · have H := bt h H
          refine wk ?_
          obtain ⟨r15, hr15, H⟩ := ob H
          refine awr_weak (weak_frz (o := 212) rfl rfl) ?_
          refine awr_weak (weak_cast (k := 19) rfl rfl ⟨by first | rfl | simp, trivial⟩) ?_
          refine awr_step rfl (cw (o := 200) (sl1Int_c hr15) rfl rfl rfl rfl rfl rfl trivial rfl rfl rfl rfl) ?_
          refine wk ?_
          cases H
          exact weak_of ⟨rfl, rfl, rfl, rfl, trivial⟩ ⟨rfl, ⟨rfl, rfl⟩, rfl, ⟨rfl, rfl⟩, rfl, ⟨rfl, rfl⟩, trivial⟩
        · have H := bf h H
          refine wk ?_
          obtain ⟨⟨v16, v17, v18, v19⟩, Hj, H⟩ := ob H
          refine awc_join ⟨[(2, .v (.c (.p 210 0))), (3, .v (.c (.p 211 0)))], [(200, .var 56 [.d false (.l (v16.map eU8)), .d false (.i .i64 v17), .d false (.i .i64 v18)]), (210, .var 38 [.d false (.i .i64 0), .d false (.i .i64 0), .d false (.i .i64 0), .d false (.i .i64 0)]), (211, .var 38 [.d false (.i .i64 r1.1.Home), .d false (.i .i64 r1.1.Visited), .d false (.i .i64 r1.1.Price), .d false (.i .i64 v19)])], 212⟩ ?_ ?_
          · have H := Hj
            refine wk ?_
            refine awc_cond rfl (fun h => ?_) (fun h => ?_)
            · have H := bt h H
              refine wk ?_
              obtain ⟨r20, hr20, H⟩ := ob H
              refine awr_weak (weak_frz (o := 212) rfl rfl) ?_
              refine awr_weak (weak_cast (k := 25) rfl rfl ⟨by first | rfl | simp, trivial⟩) ?_
              refine awr_step rfl (cw (o := 200) (sl1Int_c hr20) rfl rfl rfl rfl rfl rfl trivial rfl rfl rfl rfl) ?_
              refine wk ?_
              cases H
              exact weak_of ⟨rfl, rfl, rfl, rfl, trivial⟩ ⟨rfl, ⟨rfl, rfl⟩, rfl, ⟨rfl, rfl⟩, rfl, ⟨rfl, rfl⟩, trivial⟩
            · have H := bf h H
              refine wk ?_
              cases H
              exact weak_of ⟨rfl, rfl, rfl, rfl, trivial⟩ ⟨rfl, ⟨rfl, rfl⟩, rfl, ⟨rfl, rfl⟩, rfl, ⟨rfl, rfl⟩, trivial⟩
          refine wk ?_
          cases H
          exact weak_of ⟨rfl, rfl, rfl, rfl, trivial⟩ ⟨rfl, ⟨rfl, rfl⟩, rfl, ⟨rfl, rfl⟩, rfl, ⟨rfl, rfl⟩, trivial⟩
      refine wk ?_
      cases H
      exact weak_of ⟨rfl, rfl, rfl, rfl, trivial⟩ ⟨rfl, ⟨rfl, rfl⟩, rfl, ⟨rfl, rfl⟩, rfl, ⟨rfl, rfl⟩, trivial⟩
  refine wk ?_
  cases H
  exact fin_retW (.cons (.cell rfl rfl rfl) .nil) rfl rfl rfl rfl (by first | rfl | simp)
def sl37Agreements_L1  : (Int × List Int × Int × Int × List TRoamingAgreement) → Option (Step (Int × List Int × Int × Int × List TRoamingAgreement) (List Int × Int × Int × List TRoamingAgreement))
  | (v2, v3, v4, v5, v6) => bif ltB 0 v2 then (Option.bind (sl19Deal (⟨v3, v4, v5⟩ : Tl1Cur)) fun r12 => bif apOk 32 (v6 ++ [r12.1]).length then (some (.next (WR (v2 - 1), r12.2.fb, r12.2.fi, r12.2.fh, (v6 ++ [r12.1])))) else none) else (some (.done (v3, v4, v5, v6)))
def sl37Agreements (a0 : Tl1Cur) : Option (List TRoamingAgreement × Tl1Cur) :=
  Option.bind (sl1Below a0 6) fun r1 => Option.bind (iter (sl37Agreements_L1) FU (r1.1, r1.2.fb, r1.2.fi, r1.2.fh, ([] : List TRoamingAgreement))) fun ((v8, v9, v10, v11) : List Int × Int × Int × List TRoamingAgreement) => Option.bind (sl1Once (⟨v8, v9, v10⟩ : Tl1Cur) 6) fun r13 => Option.bind (bif r13.1 then (Option.bind (sl19Any r13.2) fun r18 => bif apOk 32 ([r18.1] ++ v11).length then (some (r18.2.fb, r18.2.fi, r18.2.fh, ([r18.1] ++ v11))) else none) else (some (r13.2.fb, r13.2.fi, r13.2.fh, v11))) fun ((v14, v15, v16, v17) : List Int × Int × Int × List TRoamingAgreement) => some (v17, (⟨v14, v15, v16⟩ : Tl1Cur))
theorem sl37Agreements_c {a0 : Tl1Cur} {r : List TRoamingAgreement × Tl1Cur} (H : sl37Agreements a0 = some r) : FnW Tryd.prog 14 (.var 56 [.d false (.l (a0.fb.map eU8)), .d false (.i .i64 a0.fi), .d false (.i .i64 a0.fh)]) [.v (.c (.p 200 0))] (.var 56 [.d false (.l (r.2.fb.map eU8)), .d false (.i .i64 r.2.fi), .d false (.i .i64 r.2.fh)]) [.c (.own 38 4 (r.1.map eTRoamingAgreement) r.1.length)] := by
  refine fn_inW Tryd.func14 rfl (by kernel_rfl) Tryd.ntmps14 rfl rfl rfl rfl rfl ?_
  refine wk ?_
  obtain ⟨r1, hr1, H⟩ := ob H
  refine awr_step rfl (cw (o := 200) (sl1Below_c hr1) rfl rfl rfl rfl rfl rfl trivial rfl rfl rfl rfl) ?_
  refine wk ?_
  obtain ⟨⟨v8, v9, v10, v11⟩, Hj, H⟩ := ob H
  refine awc_jblk ⟨[(0, .v (.c (.p 200 0))), (3, .v (.c (.w 210 v11.length)))], [(200, .var 56 [.d false (.l (v8.map eU8)), .d false (.i .i64 v9), .d false (.i .i64 v10)]), (210, .row 38 4 (v11.map eTRoamingAgreement) true true)], 211⟩ ?_ ?_
  · refine wk ?_
    refine awc_iter (fun (q : Int × List Int × Int × Int × List TRoamingAgreement) => ⟨[(0, .v (.c (.p 200 0))), (3, .v (.c (.w 210 q.2.2.2.2.length))), (4, tI q.1)], [(200, .var 56 [.d false (.l (q.2.1.map eU8)), .d false (.i .i64 q.2.2.1), .d false (.i .i64 q.2.2.2.1)]), (210, .row 38 4 (q.2.2.2.2.map eTRoamingAgreement) true true)], 211⟩) Hj (weak_of ⟨rfl, rfl, wn rfl (by first | rfl | simp), rfl, rfl, rfl, trivial⟩ ⟨rfl, ⟨rfl, rfl⟩, rfl, ⟨rfl, rfl⟩, trivial⟩) ?_
    rintro ⟨v2, v3, v4, v5, v6⟩ o H
    try dsimp only
    refine wk ?_
    refine awc_cond rfl (fun h => ?_) (fun h => ?_)
    · have H := bt h H
      refine wk ?_
      obtain ⟨r12, hr12, H⟩ := ob H
      refine awr_step rfl (cw (o := 200) (sl19Deal_c hr12) rfl rfl rfl rfl rfl rfl trivial rfl rfl rfl rfl) ?_
      refine wk ?_
      obtain ⟨h, H⟩ := rq H
      refine awr_step rfl (apT (enc := eTRoamingAgreement) (ys := v6) (zs := [r12.1]) h rfl (fun _ => rfl) (by first | rfl | simp) (.w rfl (by first | rfl | exact lm _ | simp)) rfl rfl rfl rfl rfl rfl rfl rfl) ?_
      refine wk ?_
      cases H
      refine iq_n ?_
      exact weak_of ⟨rfl, rfl, wn rfl (by first | rfl | simp), rfl, rfl, rfl, trivial⟩ ⟨rfl, ⟨rfl, rfl⟩, rfl, ⟨rfl, rfl⟩, trivial⟩
    · have H := bf h H
      refine wk ?_
      cases H
      refine iq_e (fun hq => ?_)
      cases hq
      refine wk ?_
      exact weak_of ⟨rfl, rfl, wn rfl (by first | rfl | simp), rfl, trivial⟩ ⟨rfl, ⟨rfl, rfl⟩, rfl, ⟨rfl, rfl⟩, trivial⟩
  refine wk ?_
  obtain ⟨r13, hr13, H⟩ := ob H
  refine awr_step rfl (cw (o := 200) (sl1Once_c hr13) rfl rfl rfl rfl rfl rfl trivial rfl rfl rfl rfl) ?_
  refine wk ?_
  obtain ⟨⟨v14, v15, v16, v17⟩, Hj, H⟩ := ob H
  refine awc_join ⟨[(3, .v (.c (.w 211 v17.length)))], [(200, .var 56 [.d false (.l (v14.map eU8)), .d false (.i .i64 v15), .d false (.i .i64 v16)]), (211, .row 38 4 (v17.map eTRoamingAgreement) true true)], 212⟩ ?_ ?_
  · have H := Hj
    refine wk ?_
    refine awc_cond rfl (fun h => ?_) (fun h => ?_)
    · have H := bt h H
      refine wk ?_
      obtain ⟨r18, hr18, H⟩ := ob H
      refine awr_step rfl (cw (o := 200) (sl19Any_c hr18) rfl rfl rfl rfl rfl rfl trivial rfl rfl rfl rfl) ?_
      refine wk ?_
      obtain ⟨h, H⟩ := rq H
      refine awr_step rfl (apT (enc := eTRoamingAgreement) (ys := [r18.1]) (zs := v11) h rfl (fun _ => rfl) (by first | rfl | simp) (.w rfl (by first | rfl | exact lm _ | simp)) rfl rfl rfl rfl rfl rfl rfl rfl) ?_
      refine wk ?_
      cases H
      exact weak_of ⟨wn rfl (by first | rfl | simp), rfl, trivial⟩ ⟨rfl, ⟨rfl, rfl⟩, rfl, ⟨rfl, rfl⟩, trivial⟩
    · have H := bf h H
      refine wk ?_
      cases H
      refine weak_trans (weak_up (nx' := 212) rfl) ?_
      refine weak_trans (weak_swp (p := 211) (q := 210) rfl rfl rfl rfl) ?_
      exact weak_of ⟨wn rfl (by first | rfl | simp), rfl, trivial⟩ ⟨rfl, ⟨rfl, rfl⟩, rfl, ⟨rfl, rfl⟩, trivial⟩
  refine wk ?_
  cases H
  exact fin_retW (.cons (.tmp rfl) .nil) rfl rfl (by first | rfl | simp) rfl (by first | rfl | simp)
def sDrawBooks (a0 : List Int) : Option (List TOperatorBook × List TRoamingAgreement) :=
  Option.bind (sl1New a0) fun r1 => Option.bind (sl38Books r1) fun r2 => Option.bind (sl37Agreements r2.2) fun r3 => some (r2.1, r3.1)
theorem sDrawBooks_c {a0 : List Int} {r : List TOperatorBook × List TRoamingAgreement} (H : sDrawBooks a0 = some r) : Fn Tryd.prog 5 [aL (a0.map eU8)] [.c (.own 36 3 (r.1.map eTOperatorBook) r.1.length), .c (.own 38 4 (r.2.map eTRoamingAgreement) r.2.length)] := by
  refine fn_in Tryd.func5 rfl (by kernel_rfl) Tryd.ntmps5 rfl rfl rfl ?_
  refine wk ?_
  obtain ⟨r1, hr1, H⟩ := ob H
  refine awr_n rfl (cn (sl1New_c hr1) rfl rfl trivial rfl rfl rfl) ?_
  refine wk ?_
  obtain ⟨r2, hr2, H⟩ := ob H
  refine awr_step rfl (cw (o := 0) (sl38Books_c hr2) rfl rfl rfl rfl rfl rfl trivial rfl rfl rfl rfl) ?_
  refine wk ?_
  obtain ⟨r3, hr3, H⟩ := ob H
  refine awr_step rfl (cw (o := 0) (sl37Agreements_c hr3) rfl rfl rfl rfl rfl rfl trivial rfl rfl rfl rfl) ?_
  refine wk ?_
  cases H
  exact fin_ret (.cons (.tmp rfl) (.cons (.tmp rfl) .nil)) rfl rfl (by first | rfl | simp)
def sFindBook_L1 (a0 : List TOperatorBook) (a1 : Int) : Int → Option (Step (Int) (Int))
  | v1 => bif ltB v1 ((a0.length : Nat) : Int) then (Option.bind (ix a0 v1) fun x2 => bif eqB x2.Network a1 then (dn (some v1)) else (some (.next (WR (v1 + 1))))) else (dn (some (-1)))
def sFindBook (a0 : List TOperatorBook) (a1 : Int) : Option Int :=
  iter (sFindBook_L1 a0 a1) FU 0
theorem sFindBook_c {a0 : List TOperatorBook} {a1 : Int} {r : Int} (H : sFindBook a0 a1 = some r) : Fn Tryd.prog 15 [aL (a0.map eTOperatorBook), aI a1] [.c (.d (.i .i64 r))] := by
  refine fn_in Tryd.func15 rfl (by kernel_rfl) Tryd.ntmps15 rfl rfl rfl ?_
  refine wk ?_
  refine awc_iter (fun (q : Int) => ⟨[(0, .v (.c (.d false (.l (a0.map eTOperatorBook))))), (1, tI a1), (5, tI q)], [], 0⟩) H (weak_of ⟨rfl, rfl, rfl, rfl, rfl, rfl, trivial⟩ trivial) ?_
  rintro v1 o H
  try dsimp only
  refine wk ?_
  refine awc_cond rfl (fun h => ?_) (fun h => ?_)
  · have H := bt h H
    refine wk ?_
    obtain ⟨x2, hx2, H⟩ := ob H
    refine awr_n rfl (xdT (enc := eTOperatorBook) hx2 (fun _ => rfl) rfl rfl rfl) ?_
    refine wk ?_
    refine awc_cond rfl (fun h => ?_) (fun h => ?_)
    · have H := bt h H
      refine wk ?_
      obtain ⟨r0, Hd, rfl⟩ := dnE H
      refine iq_r (fun hq => ?_)
      have H := Hd.trans (congrArg some hq)
      refine wk ?_
      cases H
      exact fin_ret (.cons (.tmp rfl) .nil) rfl rfl rfl
    · have H := bf h H
      refine wk ?_
      cases H
      refine iq_n ?_
      exact weak_of ⟨rfl, rfl, rfl, rfl, rfl, rfl, trivial⟩ trivial
  · have H := bf h H
    refine wk ?_
    obtain ⟨r0, Hd, rfl⟩ := dnE H
    refine iq_e (fun hq => ?_)
    have H := Hd.trans (congrArg some hq)
    refine wk ?_
    cases H
    exact fin_ret (.cons (.tmp rfl) .nil) rfl rfl rfl
def sIsValidBook_L1 (a0 : TOperatorBook) : Int → Option (Step (Int) (Bool))
  | v1 => bif ltB v1 ((a0.Claims.length : Nat) : Int) then (Option.bind (ix a0.Claims v1) fun x2 => bif !eqB x2.Network a0.Network then (dn (some false)) else (some (.next (WR (v1 + 1))))) else (dn (Option.bind (sl1In a0.Network 0 3) fun r3 => Option.bind (bif r3 then (Option.bind (sAreValidRecords a0.Own) fun r5 => bif r5 then (Option.bind (sAreValidRecords a0.Claims) fun r6 => some r6) else (some false)) else (some false)) fun (v4 : Bool) => some v4))
def sIsValidBook (a0 : TOperatorBook) : Option Bool :=
  iter (sIsValidBook_L1 a0) FU 0
theorem sIsValidBook_c {a0 : TOperatorBook} {r : Bool} (H : sIsValidBook a0 = some r) : Fn Tryd.prog 16 [.agg (eTOperatorBook a0)] [.c (.d (.b r))] := by
  refine fn_in Tryd.func16 rfl (by kernel_rfl) Tryd.ntmps16 rfl rfl rfl ?_
  refine wkd ?_
  refine awc_iter (fun (q : Int) => ⟨[(1, .v (.c (.p 0 0))), (3, tI q)], [(0, .var 36 [.d false (.i .i64 a0.Network), .d false (.l (a0.Own.map eTUsageRecord)), .d false (.l (a0.Claims.map eTUsageRecord))])], 1⟩) H (weak_of ⟨rfl, rfl, rfl, rfl, trivial⟩ ⟨rfl, ⟨rfl, rfl⟩, trivial⟩) ?_
  rintro v1 o H
  try dsimp only
  refine wkd ?_
  refine awc_cond rfl (fun h => ?_) (fun h => ?_)
  · have H := bt h H
    refine wkd ?_
    obtain ⟨x2, hx2, H⟩ := ob H
    refine dr_n rfl (xdT (enc := eTUsageRecord) hx2 (fun _ => rfl) rfl rfl rfl) ?_
    refine wkd ?_
    refine awc_cond rfl (fun h => ?_) (fun h => ?_)
    · have H := bt h H
      refine wkd ?_
      obtain ⟨r0, Hd, rfl⟩ := dnE H
      refine iq_r (fun hq => ?_)
      have H := Hd.trans (congrArg some hq)
      refine wkd ?_
      cases H
      exact fin_ret (.cons (.tmp rfl) .nil) rfl rfl rfl
    · have H := bf h H
      refine wkd ?_
      cases H
      refine iq_n ?_
      exact weak_of ⟨rfl, rfl, rfl, rfl, trivial⟩ ⟨rfl, ⟨rfl, rfl⟩, trivial⟩
  · have H := bf h H
    refine wkd ?_
    obtain ⟨r0, Hd, rfl⟩ := dnE H
    refine iq_e (fun hq => ?_)
    have H := Hd.trans (congrArg some hq)
    refine wkd ?_
    obtain ⟨r3, hr3, H⟩ := ob H
    refine awr_n rfl (ca rfl rfl rfl (sl1In_c hr3) trivial rfl rfl rfl rfl) ?_
    refine wkd ?_
    obtain ⟨v4, Hj, H⟩ := ob H
    refine awr_join ⟨[(2, tB v4)], [], 0⟩ ?_ ?_
    · have H := Hj
      refine wkd ?_
      refine g2 rfl rfl rfl (fun h => ?_) (fun h => ?_)
      · have H := bt h H
        refine wkd ?_
        obtain ⟨r5, hr5, H⟩ := ob H
        refine awr_ng rfl rfl rfl rfl (ca rfl rfl rfl (sAreValidRecords_c hr5) trivial rfl rfl rfl rfl) ?_
        refine wkd ?_
        refine g2 rfl rfl rfl (fun h => ?_) (fun h => ?_)
        · have H := bt h H
          refine wkd ?_
          obtain ⟨r6, hr6, H⟩ := ob H
          refine awr_ng rfl rfl rfl rfl (ca rfl rfl rfl (sAreValidRecords_c hr6) trivial rfl rfl rfl rfl) ?_
          refine wkd ?_
          cases H
          exact weak_of ⟨rfl, rfl, trivial⟩ trivial
        · have H := bf h H
          refine wkd ?_
          cases H
          exact weak_of ⟨rfl, rfl, trivial⟩ trivial
      · have H := bf h H
        refine wkd ?_
        cases H
        exact weak_of ⟨rfl, rfl, trivial⟩ trivial
    refine wkd ?_
    cases H
    exact fin_ret (.cons (.tmp rfl) .nil) rfl rfl rfl
def sIsValidAgreement (a0 : TRoamingAgreement) : Option Bool :=
  Option.bind (sl1In a0.Home 0 3) fun r1 => Option.bind (bif r1 then (Option.bind (sl1In a0.Visited 0 3) fun r3 => bif r3 then (bif !eqB a0.Home a0.Visited then (Option.bind (sl1In a0.Price 0 1000) fun r4 => bif r4 then (Option.bind (sl1In a0.Cap 0 1000000000000) fun r5 => some r5) else (some false)) else (some false)) else (some false)) else (some false)) fun (v2 : Bool) => some v2
theorem sIsValidAgreement_c {a0 : TRoamingAgreement} {r : Bool} (H : sIsValidAgreement a0 = some r) : Fn Tryd.prog 34 [.agg (eTRoamingAgreement a0)] [.c (.d (.b r))] := by
  refine fn_in Tryd.func34 rfl (by kernel_rfl) Tryd.ntmps34 rfl rfl rfl ?_
  refine wk ?_
  obtain ⟨r1, hr1, H⟩ := ob H
  refine awr_n rfl (ca rfl rfl rfl (sl1In_c hr1) trivial rfl rfl rfl rfl) ?_
  refine wk ?_
  obtain ⟨v2, Hj, H⟩ := ob H
  refine awr_join ⟨[(2, tB v2)], [], 0⟩ ?_ ?_
  · have H := Hj
    refine wk ?_
    refine g2 rfl rfl rfl (fun h => ?_) (fun h => ?_)
    · have H := bt h H
      refine wk ?_
      obtain ⟨r3, hr3, H⟩ := ob H
      refine awr_ng rfl rfl rfl rfl (ca rfl rfl rfl (sl1In_c hr3) trivial rfl rfl rfl rfl) ?_
      refine wk ?_
      refine g2 rfl rfl rfl (fun h => ?_) (fun h => ?_)
      · have H := bt h H
        refine wk ?_
        refine g2 rfl rfl rfl (fun h => ?_) (fun h => ?_)
        · have H := bt h H
          refine wk ?_
          obtain ⟨r4, hr4, H⟩ := ob H
          refine awr_ng rfl rfl rfl rfl (ca rfl rfl rfl (sl1In_c hr4) trivial rfl rfl rfl rfl) ?_
          refine wk ?_
          refine g2 rfl rfl rfl (fun h => ?_) (fun h => ?_)
          · have H := bt h H
            refine wk ?_
            obtain ⟨r5, hr5, H⟩ := ob H
            refine awr_ng rfl rfl rfl rfl (ca rfl rfl rfl (sl1In_c hr5) trivial rfl rfl rfl rfl) ?_
            refine wk ?_
            cases H
            exact weak_of ⟨rfl, rfl, trivial⟩ trivial
          · have H := bf h H
            refine wk ?_
            cases H
            exact weak_of ⟨rfl, rfl, trivial⟩ trivial
        · have H := bf h H
          refine wk ?_
          cases H
          exact weak_of ⟨rfl, rfl, trivial⟩ trivial
      · have H := bf h H
        refine wk ?_
        cases H
        exact weak_of ⟨rfl, rfl, trivial⟩ trivial
    · have H := bf h H
      refine wk ?_
      cases H
      exact weak_of ⟨rfl, rfl, trivial⟩ trivial
  refine wk ?_
  cases H
  exact fin_ret (.cons (.tmp rfl) .nil) rfl rfl rfl
def sMin (a0 : Int) (a1 : Int) : Option Int :=
  bif ltB a1 a0 then (some a1) else (some a0)
theorem sMin_c {a0 : Int} {a1 : Int} {r : Int} (H : sMin a0 a1 = some r) : Fn Tryd.prog 35 [aI a0, aI a1] [.c (.d (.i .i64 r))] := by
  refine fn_in Tryd.func35 rfl (by kernel_rfl) Tryd.ntmps35 rfl rfl rfl ?_
  refine wk ?_
  refine awc_cond rfl (fun h => ?_) (fun h => ?_)
  · have H := bt h H
    refine wk ?_
    cases H
    exact fin_ret (.cons (.tmp rfl) .nil) rfl rfl rfl
  · have H := bf h H
    refine wk ?_
    cases H
    exact fin_ret (.cons (.tmp rfl) .nil) rfl rfl rfl
def sAgreedBytes_L1 (a0 : List TUsageRecord) (a1 : List TUsageRecord) (a2 : Int) : (Int × Int) → Option (Step (Int × Int) (Int))
  | (v1, v2) => bif ltB v2 ((a1.length : Nat) : Int) then (Option.bind (ix a1 v2) fun x14 => Option.bind (sFindRecord a0 x14) fun r15 => Option.bind (ix a1 v2) fun x16 => Option.bind (bif eqB x16.Network a2 then (Option.bind (ix a1 v2) fun x18 => Option.bind (sFindRecord a1 x18) fun r19 => bif eqB r19 v2 then (some (leB 0 r15)) else (some false)) else (some false)) fun (v17 : Bool) => Option.bind (bif v17 then (Option.bind (ix a0 r15) fun x21 => Option.bind (ix a1 v2) fun x22 => Option.bind (sMin x21.Bytes x22.Bytes) fun r23 => some (WR (v1 + r23))) else (some v1)) fun (v20 : Int) => some (.next (v20, WR (v2 + 1)))) else (some (.done v1))
def sAgreedBytes (a0 : List TUsageRecord) (a1 : List TUsageRecord) (a2 : Int) : Option Int :=
  Option.bind (iter (sAgreedBytes_L1 a0 a1 a2) FU (0, 0)) fun (v13 : Int) => some v13
theorem sAgreedBytes_c {a0 : List TUsageRecord} {a1 : List TUsageRecord} {a2 : Int} {r : Int} (H : sAgreedBytes a0 a1 a2 = some r) : Fn Tryd.prog 36 [aL (a0.map eTUsageRecord), aL (a1.map eTUsageRecord), aI a2] [.c (.d (.i .i64 r))] := by
  refine fn_in Tryd.func36 rfl (by kernel_rfl) Tryd.ntmps36 rfl rfl rfl ?_
  refine wkd ?_
  obtain ⟨v13, Hj, H⟩ := ob H
  refine awc_jblk ⟨[(7, tI v13)], [], 0⟩ ?_ ?_
  · refine wkd ?_
    refine awc_iter (fun (q : Int × Int) => ⟨[(0, .v (.c (.d false (.l (a0.map eTUsageRecord))))), (1, .v (.c (.d false (.l (a1.map eTUsageRecord))))), (2, tI a2), (7, tI q.1), (8, tI q.2)], [], 0⟩) Hj (weak_of ⟨rfl, rfl, rfl, rfl, rfl, rfl, rfl, rfl, rfl, rfl, trivial⟩ trivial) ?_
    rintro ⟨v1, v2⟩ o H
    try dsimp only
    refine wkd ?_
    refine awc_cond rfl (fun h => ?_) (fun h => ?_)
    · have H := bt h H
      refine wkd ?_
      obtain ⟨x14, hx14, H⟩ := ob H
      refine awr_n rfl (xdT (enc := eTUsageRecord) hx14 (fun _ => rfl) rfl rfl rfl) ?_
      refine wkd ?_
      obtain ⟨r15, hr15, H⟩ := ob H
      refine awr_n rfl (ca rfl rfl rfl (sFindRecord_c hr15) trivial rfl rfl rfl rfl) ?_
      refine wkd ?_
      obtain ⟨x16, hx16, H⟩ := ob H
      refine awr_n rfl (xdT (enc := eTUsageRecord) hx16 (fun _ => rfl) rfl rfl rfl) ?_
      refine wkd ?_
      obtain ⟨v17, Hj, H⟩ := ob H
      refine awr_join ⟨[(0, .v (.c (.d false (.l (a0.map eTUsageRecord))))), (1, .v (.c (.d false (.l (a1.map eTUsageRecord))))), (2, tI a2), (7, tI v1), (8, tI v2), (9, tI r15), (42, tB v17)], [], 0⟩ ?_ ?_
      · have H := Hj
        refine wkd ?_
        refine g2 rfl rfl rfl (fun h => ?_) (fun h => ?_)
        · have H := bt h H
          refine wkd ?_
          obtain ⟨x18, hx18, H⟩ := ob H
          refine awr_ng rfl rfl rfl rfl (xdT (enc := eTUsageRecord) hx18 (fun _ => rfl) rfl rfl rfl) ?_
          refine wkd ?_
          obtain ⟨r19, hr19, H⟩ := ob H
          refine awr_ng rfl rfl rfl rfl (ca rfl rfl rfl (sFindRecord_c hr19) trivial rfl rfl rfl rfl) ?_
          refine wkd ?_
          refine g2 rfl rfl rfl (fun h => ?_) (fun h => ?_)
          · have H := bt h H
            refine wkd ?_
            cases H
            exact weak_of ⟨rfl, rfl, rfl, rfl, rfl, rfl, rfl, rfl, rfl, rfl, rfl, rfl, rfl, rfl, trivial⟩ trivial
          · have H := bf h H
            refine wkd ?_
            cases H
            exact weak_of ⟨rfl, rfl, rfl, rfl, rfl, rfl, rfl, rfl, rfl, rfl, rfl, rfl, rfl, rfl, trivial⟩ trivial
        · have H := bf h H
          refine wkd ?_
          cases H
          exact weak_of ⟨rfl, rfl, rfl, rfl, rfl, rfl, rfl, rfl, rfl, rfl, rfl, rfl, rfl, rfl, trivial⟩ trivial
      refine wkd ?_
      obtain ⟨v20, Hj, H⟩ := ob H
      refine awc_join ⟨[(0, .v (.c (.d false (.l (a0.map eTUsageRecord))))), (1, .v (.c (.d false (.l (a1.map eTUsageRecord))))), (2, tI a2), (7, tI v20), (8, tI v2)], [], 0⟩ ?_ ?_
      · have H := Hj
        refine wkd ?_
        refine awc_cond rfl (fun h => ?_) (fun h => ?_)
        · have H := bt h H
          refine wkd ?_
          obtain ⟨x21, hx21, H⟩ := ob H
          refine dr_n rfl (xdT (enc := eTUsageRecord) hx21 (fun _ => rfl) rfl rfl rfl) ?_
          refine wkd ?_
          obtain ⟨x22, hx22, H⟩ := ob H
          refine dr_n rfl (xdT (enc := eTUsageRecord) hx22 (fun _ => rfl) rfl rfl rfl) ?_
          refine wkd ?_
          obtain ⟨r23, hr23, H⟩ := ob H
          refine dr_n rfl (ca rfl rfl rfl (sMin_c hr23) trivial rfl rfl rfl rfl) ?_
          refine wkd ?_
          cases H
          exact weak_of ⟨rfl, rfl, rfl, rfl, rfl, rfl, rfl, rfl, rfl, rfl, trivial⟩ trivial
        · have H := bf h H
          refine wkd ?_
          cases H
          exact weak_of ⟨rfl, rfl, rfl, rfl, rfl, rfl, rfl, rfl, rfl, rfl, trivial⟩ trivial
      refine wkd ?_
      cases H
      refine iq_n ?_
      exact weak_of ⟨rfl, rfl, rfl, rfl, rfl, rfl, rfl, rfl, rfl, rfl, trivial⟩ trivial
    · have H := bf h H
      refine wkd ?_
      cases H
      refine iq_e (fun hq => ?_)
      cases hq
      refine wkd ?_
      exact weak_of ⟨rfl, rfl, trivial⟩ trivial
  refine wkd ?_
  cases H
  exact fin_ret (.cons (.tmp rfl) .nil) rfl rfl rfl
def sAmountOwed (a0 : TRoamingAgreement) (a1 : List TUsageRecord) (a2 : List TUsageRecord) : Option Int :=
  Option.bind (sIsValidAgreement a0) fun r1 => Option.bind (bif !r1 then (some true) else (Option.bind (sAreValidRecords a1) fun r3 => bif !r3 then (some true) else (Option.bind (sAreValidRecords a2) fun r4 => some (!r4)))) fun (v2 : Bool) => bif v2 then (some 0) else (Option.bind (sAgreedBytes a1 a2 a0.Visited) fun r5 => Option.bind (sMin a0.Cap (WR (a0.Price * r5))) fun r6 => some r6)
theorem sAmountOwed_c {a0 : TRoamingAgreement} {a1 : List TUsageRecord} {a2 : List TUsageRecord} {r : Int} (H : sAmountOwed a0 a1 a2 = some r) : Fn Tryd.prog 17 [.agg (eTRoamingAgreement a0), aL (a1.map eTUsageRecord), aL (a2.map eTUsageRecord)] [.c (.d (.i .i64 r))] := by
  refine fn_in Tryd.func17 rfl (by kernel_rfl) Tryd.ntmps17 rfl rfl rfl ?_
  refine wkd ?_
  obtain ⟨r1, hr1, H⟩ := ob H
  refine awr_n rfl (ca rfl rfl rfl (sIsValidAgreement_c hr1) trivial rfl rfl rfl rfl) ?_
  refine wkd ?_
  obtain ⟨v2, Hj, H⟩ := ob H
  refine awr_join ⟨[(1, .v (.c (.d false (.l (a1.map eTUsageRecord))))), (2, .v (.c (.d false (.l (a2.map eTUsageRecord))))), (3, .v (.c (.p 0 0))), (19, tB v2)], [(0, .var 38 [.d false (.i .i64 a0.Home), .d false (.i .i64 a0.Visited), .d false (.i .i64 a0.Price), .d false (.i .i64 a0.Cap)])], 1⟩ ?_ ?_
  · have H := Hj
    refine wkd ?_
    refine g2 rfl rfl rfl (fun h => ?_) (fun h => ?_)
    · have H := bt h H
      refine wkd ?_
      cases H
      exact weak_of ⟨rfl, rfl, rfl, rfl, rfl, rfl, rfl, rfl, trivial⟩ ⟨rfl, ⟨rfl, rfl⟩, trivial⟩
    · have H := bf h H
      refine wkd ?_
      obtain ⟨r3, hr3, H⟩ := ob H
      refine awr_ng rfl rfl rfl rfl (ca rfl rfl rfl (sAreValidRecords_c hr3) trivial rfl rfl rfl rfl) ?_
      refine wkd ?_
      refine g2 rfl rfl rfl (fun h => ?_) (fun h => ?_)
      · have H := bt h H
        refine wkd ?_
        cases H
        exact weak_of ⟨rfl, rfl, rfl, rfl, rfl, rfl, rfl, rfl, trivial⟩ ⟨rfl, ⟨rfl, rfl⟩, trivial⟩
      · have H := bf h H
        refine wkd ?_
        obtain ⟨r4, hr4, H⟩ := ob H
        refine awr_ng rfl rfl rfl rfl (ca rfl rfl rfl (sAreValidRecords_c hr4) trivial rfl rfl rfl rfl) ?_
        refine wkd ?_
        cases H
        exact weak_of ⟨rfl, rfl, rfl, rfl, rfl, rfl, rfl, rfl, trivial⟩ ⟨rfl, ⟨rfl, rfl⟩, trivial⟩
  refine wkd ?_
  refine awc_cond rfl (fun h => ?_) (fun h => ?_)
  · have H := bt h H
    refine wkd ?_
    cases H
    exact fin_ret (.cons (.tmp rfl) .nil) rfl rfl rfl
  · have H := bf h H
    refine wkd ?_
    obtain ⟨r5, hr5, H⟩ := ob H
    refine dr_n rfl (ca rfl rfl rfl (sAgreedBytes_c hr5) trivial rfl rfl rfl rfl) ?_
    refine wkd ?_
    obtain ⟨r6, hr6, H⟩ := ob H
    refine dr_n rfl (ca rfl rfl rfl (sMin_c hr6) trivial rfl rfl rfl rfl) ?_
    refine wkd ?_
    cases H
    exact fin_ret (.cons (.tmp rfl) .nil) rfl rfl rfl
def sSettlement_L1 (a0 : List TOperatorBook) (a1 : List TRoamingAgreement) : (Int × List TStatementLine) → Option (Step (Int × List TStatementLine) (List TStatementLine))
  | (v1, v2) => Option.bind (bif ltB v1 ((a1.length : Nat) : Int) then (some (ltB ((v2.length : Nat) : Int) 12)) else (some false)) fun (v17 : Bool) => bif v17 then (Option.bind (ix a1 v1) fun x18 => Option.bind (sFindBook a0 x18.Home) fun r19 => Option.bind (sFindBook a0 x18.Visited) fun r20 => Option.bind (bif ltB r19 0 then (some true) else (bif ltB r20 0 then (some true) else (Option.bind (ix a0 r19) fun x22 => Option.bind (sIsValidBook x22) fun r23 => bif !r23 then (some true) else (Option.bind (ix a0 r20) fun x24 => Option.bind (sIsValidBook x24) fun r25 => some (!r25))))) fun (v21 : Bool) => bif v21 then (some (.next (WR (v1 + 1), v2))) else (Option.bind (ix a0 r19) fun x26 => Option.bind (ix a0 r20) fun x27 => Option.bind (sAmountOwed x18 x26.Own x27.Claims) fun r28 => Option.bind (bif ltB 0 r28 then (bif apOk 24 (v2 ++ [(⟨x18.Home, x18.Visited, r28⟩ : TStatementLine)]).length then (some (v2 ++ [(⟨x18.Home, x18.Visited, r28⟩ : TStatementLine)])) else none) else (some v2)) fun (v29 : List TStatementLine) => some (.next (WR (v1 + 1), v29)))) else (some (.done v2))
def sSettlement (a0 : List TOperatorBook) (a1 : List TRoamingAgreement) : Option (List TStatementLine) :=
  Option.bind (iter (sSettlement_L1 a0 a1) FU (0, ([] : List TStatementLine))) fun (v16 : List TStatementLine) => some v16
theorem sSettlement_c {a0 : List TOperatorBook} {a1 : List TRoamingAgreement} {r : List TStatementLine} (H : sSettlement a0 a1 = some r) : Fn Tryd.prog 7 [aL (a0.map eTOperatorBook), aL (a1.map eTRoamingAgreement)] [.c (.own 32 3 (r.map eTStatementLine) r.length)] := by
  refine fn_in Tryd.func7 rfl (by kernel_rfl) Tryd.ntmps7 rfl rfl rfl ?_
  refine wkd ?_
  obtain ⟨v16, Hj, H⟩ := ob H
  refine awc_jblk ⟨[(5, .v (.c (.w 0 v16.length)))], [(0, .row 32 3 (v16.map eTStatementLine) true true)], 1⟩ ?_ ?_
  · refine wkd ?_
    refine awc_iter (fun (q : Int × List TStatementLine) => ⟨[(0, .v (.c (.d false (.l (a0.map eTOperatorBook))))), (1, .v (.c (.d false (.l (a1.map eTRoamingAgreement))))), (5, .v (.c (.w 0 q.2.length))), (6, tI q.1)], [(0, .row 32 3 (q.2.map eTStatementLine) true true)], 1⟩) Hj (weak_of ⟨rfl, rfl, rfl, rfl, wn rfl (by first | rfl | simp), rfl, rfl, rfl, trivial⟩ ⟨rfl, ⟨rfl, rfl⟩, trivial⟩) ?_
    rintro ⟨v1, v2⟩ o H
    try dsimp only
    refine wkd ?_
    obtain ⟨v17, Hj, H⟩ := ob H
    refine awr_join ⟨[(0, .v (.c (.d false (.l (a0.map eTOperatorBook))))), (1, .v (.c (.d false (.l (a1.map eTRoamingAgreement))))), (5, .v (.c (.w 0 v2.length))), (6, tI v1), (20, tB v17)], [(0, .row 32 3 (v2.map eTStatementLine) true true)], 1⟩ ?_ ?_
    · have H := Hj
      refine wkd ?_
      refine g2 rfl rfl rfl (fun h => ?_) (fun h => ?_)
      · have H := bt h H
        refine wkd ?_
        cases H
        exact weak_of ⟨rfl, rfl, rfl, rfl, wn rfl (by first | rfl | simp), rfl, rfl, rfl, rfl, rfl, trivial⟩ ⟨rfl, ⟨rfl, rfl⟩, trivial⟩
      · have H := bf h H
        refine wkd ?_
        cases H
        exact weak_of ⟨rfl, rfl, rfl, rfl, wn rfl (by first | rfl | simp), rfl, rfl, rfl, rfl, rfl, trivial⟩ ⟨rfl, ⟨rfl, rfl⟩, trivial⟩
    refine wkd ?_
    refine awc_cond rfl (fun h => ?_) (fun h => ?_)
    · have H := bt h H
      refine wkd ?_
      obtain ⟨x18, hx18, H⟩ := ob H
      refine awr_n rfl (xdT (enc := eTRoamingAgreement) hx18 (fun _ => rfl) rfl rfl rfl) ?_
      refine wkd ?_
      obtain ⟨r19, hr19, H⟩ := ob H
      refine awr_n rfl (ca rfl rfl rfl (sFindBook_c hr19) trivial rfl rfl rfl rfl) ?_
      refine wkd ?_
      obtain ⟨r20, hr20, H⟩ := ob H
      refine awr_n rfl (ca rfl rfl rfl (sFindBook_c hr20) trivial rfl rfl rfl rfl) ?_
      refine wkd ?_
      obtain ⟨v21, Hj, H⟩ := ob H
      refine awr_join ⟨[(0, .v (.c (.d false (.l (a0.map eTOperatorBook))))), (1, .v (.c (.d false (.l (a1.map eTRoamingAgreement))))), (5, .v (.c (.w 0 v2.length))), (6, tI v1), (7, .v (.c (.p 1 0))), (8, tI r19), (9, tI r20), (56, tB v21)], [(0, .row 32 3 (v2.map eTStatementLine) true true), (1, .var 38 [.d false (.i .i64 x18.Home), .d false (.i .i64 x18.Visited), .d false (.i .i64 x18.Price), .d false (.i .i64 x18.Cap)])], 2⟩ ?_ ?_
      · have H := Hj
        refine wkd ?_
        refine g2 rfl rfl rfl (fun h => ?_) (fun h => ?_)
        · have H := bt h H
          refine wkd ?_
          cases H
          exact weak_of ⟨rfl, rfl, rfl, rfl, wn rfl (by first | rfl | simp), rfl, rfl, rfl, rfl, rfl, rfl, rfl, rfl, rfl, rfl, rfl, trivial⟩ ⟨rfl, ⟨rfl, rfl⟩, rfl, ⟨rfl, rfl⟩, trivial⟩
        · have H := bf h H
          refine wkd ?_
          refine g2 rfl rfl rfl (fun h => ?_) (fun h => ?_)
          · have H := bt h H
            refine wkd ?_
            cases H
            exact weak_of ⟨rfl, rfl, rfl, rfl, wn rfl (by first | rfl | simp), rfl, rfl, rfl, rfl, rfl, rfl, rfl, rfl, rfl, rfl, rfl, trivial⟩ ⟨rfl, ⟨rfl, rfl⟩, rfl, ⟨rfl, rfl⟩, trivial⟩
          · have H := bf h H
            refine wkd ?_
            obtain ⟨x22, hx22, H⟩ := ob H
            refine awr_ng rfl rfl rfl rfl (xdT (enc := eTOperatorBook) hx22 (fun _ => rfl) rfl rfl rfl) ?_
            refine wkd ?_
            obtain ⟨r23, hr23, H⟩ := ob H
            refine awr_ng rfl rfl rfl rfl (ca rfl rfl rfl (sIsValidBook_c hr23) trivial rfl rfl rfl rfl) ?_
            refine wkd ?_
            refine g2 rfl rfl rfl (fun h => ?_) (fun h => ?_)
            · have H := bt h H
              refine wkd ?_
              cases H
              exact weak_of ⟨rfl, rfl, rfl, rfl, wn rfl (by first | rfl | simp), rfl, rfl, rfl, rfl, rfl, rfl, rfl, rfl, rfl, rfl, rfl, trivial⟩ ⟨rfl, ⟨rfl, rfl⟩, rfl, ⟨rfl, rfl⟩, trivial⟩
            · have H := bf h H
              refine wkd ?_
              obtain ⟨x24, hx24, H⟩ := ob H
              refine awr_ng rfl rfl rfl rfl (xdT (enc := eTOperatorBook) hx24 (fun _ => rfl) rfl rfl rfl) ?_
              refine wkd ?_
              obtain ⟨r25, hr25, H⟩ := ob H
              refine awr_ng rfl rfl rfl rfl (ca rfl rfl rfl (sIsValidBook_c hr25) trivial rfl rfl rfl rfl) ?_
              refine wkd ?_
              cases H
              exact weak_of ⟨rfl, rfl, rfl, rfl, wn rfl (by first | rfl | simp), rfl, rfl, rfl, rfl, rfl, rfl, rfl, rfl, rfl, rfl, rfl, trivial⟩ ⟨rfl, ⟨rfl, rfl⟩, rfl, ⟨rfl, rfl⟩, trivial⟩
      refine wkd ?_
      refine awc_cond rfl (fun h => ?_) (fun h => ?_)
      · have H := bt h H
        refine wkd ?_
        cases H
        refine iq_n ?_
        exact weak_of ⟨rfl, rfl, rfl, rfl, wn rfl (by first | rfl | simp), rfl, rfl, rfl, trivial⟩ ⟨rfl, ⟨rfl, rfl⟩, trivial⟩
      · have H := bf h H
        refine wkd ?_
        obtain ⟨x26, hx26, H⟩ := ob H
        refine dr_n rfl (xdT (enc := eTOperatorBook) hx26 (fun _ => rfl) rfl rfl rfl) ?_
        refine wkd ?_
        obtain ⟨x27, hx27, H⟩ := ob H
        refine dr_n rfl (xdT (enc := eTOperatorBook) hx27 (fun _ => rfl) rfl rfl rfl) ?_
        refine wkd ?_
        obtain ⟨r28, hr28, H⟩ := ob H
        refine dr_n rfl (ca rfl rfl rfl (sAmountOwed_c hr28) trivial rfl rfl rfl rfl) ?_
        refine wkd ?_
        obtain ⟨v29, Hj, H⟩ := ob H
        refine awc_join ⟨[(0, .v (.c (.d false (.l (a0.map eTOperatorBook))))), (1, .v (.c (.d false (.l (a1.map eTRoamingAgreement))))), (5, .v (.c (.w 0 v29.length))), (6, tI v1)], [(0, .row 32 3 (v29.map eTStatementLine) true true)], 1⟩ ?_ ?_
        · have H := Hj
          refine wkd ?_
          refine awc_cond rfl (fun h => ?_) (fun h => ?_)
          · have H := bt h H
            refine wkd ?_
            obtain ⟨h, H⟩ := rq H
            refine awr_step rfl (apT (enc := eTStatementLine) (ys := v2) (zs := [(⟨x18.Home, x18.Visited, r28⟩ : TStatementLine)]) h rfl (fun _ => rfl) (by first | rfl | simp) (.w rfl (by first | rfl | exact lm _ | simp)) rfl rfl rfl rfl rfl rfl rfl rfl) ?_
            refine wkd ?_
            cases H
            exact weak_of ⟨rfl, rfl, rfl, rfl, wn rfl (by first | rfl | simp), rfl, rfl, rfl, trivial⟩ ⟨rfl, ⟨rfl, rfl⟩, trivial⟩
          · have H := bf h H
            refine wkd ?_
            cases H
            exact weak_of ⟨rfl, rfl, rfl, rfl, wn rfl (by first | rfl | simp), rfl, rfl, rfl, trivial⟩ ⟨rfl, ⟨rfl, rfl⟩, trivial⟩
        refine wkd ?_
        cases H
        refine iq_n ?_
        exact weak_of ⟨rfl, rfl, rfl, rfl, wn rfl (by first | rfl | simp), rfl, rfl, rfl, trivial⟩ ⟨rfl, ⟨rfl, rfl⟩, trivial⟩
    · have H := bf h H
      refine wkd ?_
      cases H
      refine iq_e (fun hq => ?_)
      cases hq
      refine wkd ?_
      exact weak_of ⟨wn rfl (by first | rfl | simp), rfl, trivial⟩ ⟨rfl, ⟨rfl, rfl⟩, trivial⟩
  refine wkd ?_
  cases H
  exact fin_ret (.cons (.tmp rfl) .nil) rfl rfl (by first | rfl | simp)
end Go.AM
