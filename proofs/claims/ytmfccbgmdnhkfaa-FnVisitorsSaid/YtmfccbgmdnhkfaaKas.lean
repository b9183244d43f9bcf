/-
  Own text: a part of the abstract machine for this seat (Kas). No statement is proved here.
-/
import Derived.Test.YtmfccbgmdnhkfaaKai
set_option linter.unusedVariables false
namespace Go.AM
open Go.Proofs
attribute [local irreducible] AWN NS AWO AWR AWC DR Weak iterQ
set_option maxRecDepth 100000
set_option maxHeartbeats 4000000
def sl1New_L1 (a0 : List Int) : (Int × Int) → Option (Step (Int × Int) (Int))
  | (v1, v2) => Option.bind (bif ltB v2 ((a0.length : Nat) : Int) then (some (ltB v2 4000)) else (some false)) fun (v6 : Bool) => bif v6 then (Option.bind (ix a0 v2) fun x7 => some (.next (bAnd .i64 (WR ((WR ((WR (v1 * 137)) + (WR (x7)))) + 11)) 1073741823, WR (v2 + 1)))) else (some (.done v1))
def sl1New (a0 : List Int) : Option Tl1Cur :=
  Option.bind (iter (sl1New_L1 a0) FU (WR (193017 + ((a0.length : Nat) : Int)), 0)) fun (v5 : Int) => some (⟨a0, 0, v5⟩ : Tl1Cur)
theorem sl1New_c {a0 : List Int} {r : Tl1Cur} (H : sl1New a0 = some r) : FnN Try.prog 29 [aL (a0.map eU8)] 81 (eTl1Cur r) := by
  refine fn_inN Try.func29 rfl (by kernel_rfl) Try.ntmps29 rfl rfl rfl ?_
  refine wk ?_
  obtain ⟨v5, Hj, H⟩ := ob H
  refine awc_jblk ⟨[(0, .v (.c (.d false (.l (a0.map eU8))))), (3, tI v5)], [], 0⟩ ?_ ?_
  · refine wk ?_
    refine awc_iter (fun (q : Int × Int) => ⟨[(0, .v (.c (.d false (.l (a0.map eU8))))), (3, tI q.1), (4, tI q.2)], [], 0⟩) Hj (weak_of ⟨rfl, rfl, rfl, rfl, rfl, rfl, trivial⟩ trivial) ?_
    rintro ⟨v1, v2⟩ o H
    try dsimp only
    refine wk ?_
    obtain ⟨v6, Hj, H⟩ := ob H
    refine awr_join ⟨[(0, .v (.c (.d false (.l (a0.map eU8))))), (3, tI v1), (4, tI v2), (15, tB v6)], [], 0⟩ ?_ ?_
    · have H := Hj
      refine wk ?_
      refine g2 rfl rfl rfl (fun h => ?_) (fun h => ?_)
      · have H := bt h H
        refine wk ?_
        cases H
        exact weak_of ⟨rfl, rfl, rfl, rfl, rfl, rfl, rfl, rfl, trivial⟩ trivial
      · have H := bf h H
        refine wk ?_
        cases H
        exact weak_of ⟨rfl, rfl, rfl, rfl, rfl, rfl, rfl, rfl, trivial⟩ trivial
    refine wk ?_
    refine awc_cond rfl (fun h => ?_) (fun h => ?_)
    · have H := bt h H
      refine wk ?_
      obtain ⟨x7, hx7, H⟩ := ob H
      refine awr_n rfl (xdT (enc := eU8) hx7 (fun _ => rfl) rfl rfl rfl) ?_
      refine wk ?_
      cases H
      refine iq_n ?_
      exact weak_of ⟨rfl, rfl, rfl, rfl, rfl, rfl, trivial⟩ trivial
    · have H := bf h H
      refine wk ?_
      cases H
      refine iq_e (fun hq => ?_)
      cases hq
      refine wk ?_
      exact weak_of ⟨rfl, rfl, rfl, rfl, trivial⟩ trivial
  refine wk ?_
  cases H
  exact fin_retN rfl rfl rfl rfl rfl rfl
def sl1Byte (a0 : Tl1Cur) : Option (Int × Tl1Cur) :=
  Option.bind (bif ltB a0.fi ((a0.fb.length : Nat) : Int) then (Option.bind (ix a0.fb a0.fi) fun x3 => some (bAnd .i64 (WR ((bAnd .i64 (bXor .i64 (bShr .i64 (WR ((WR (a0.fh * 6364136223846793005)) + 1442695040888963407)) 33) (bShr .i64 (WR ((WR (a0.fh * 6364136223846793005)) + 1442695040888963407)) 47)) 255) + (WR (x3)))) 255, WR (a0.fi + 1))) else (some (bAnd .i64 (bXor .i64 (bShr .i64 (WR ((WR (a0.fh * 6364136223846793005)) + 1442695040888963407)) 33) (bShr .i64 (WR ((WR (a0.fh * 6364136223846793005)) + 1442695040888963407)) 47)) 255, a0.fi))) fun ((v1, v2) : Int × Int) => some (v1, (⟨a0.fb, v2, WR ((WR (a0.fh * 6364136223846793005)) + 1442695040888963407)⟩ : Tl1Cur))
theorem sl1Byte_c {a0 : Tl1Cur} {r : Int × Tl1Cur} (H : sl1Byte a0 = some r) : FnW Try.prog 56 (.var 81 [.d false (.l (a0.fb.map eU8)), .d false (.i .i64 a0.fi), .d false (.i .i64 a0.fh)]) [.v (.c (.p 200 0))] (.var 81 [.d false (.l (r.2.fb.map eU8)), .d false (.i .i64 r.2.fi), .d false (.i .i64 r.2.fh)]) [.c (.d (.i .i64 r.1))] := by
  refine fn_inW Try.func56 rfl (by kernel_rfl) Try.ntmps56 rfl rfl rfl rfl rfl ?_
  refine wkd ?_
  refine dr_n rfl (ishL (b := 33) rfl rfl rfl rfl) ?_
  refine wkd ?_
  refine dr_n rfl (ishL (b := 47) rfl rfl rfl rfl) ?_
  refine wkd ?_
  obtain ⟨⟨v1, v2⟩, Hj, H⟩ := ob H
  refine awc_join ⟨[(3, tI v1)], [(200, .var 81 [.d false (.l (a0.fb.map eU8)), .d false (.i .i64 v2), .d false (.i .i64 (WR ((WR (a0.fh * 6364136223846793005)) + 1442695040888963407)))])], 210⟩ ?_ ?_
  · have H := Hj
    refine wkd ?_
    refine awc_cond rfl (fun h => ?_) (fun h => ?_)
    · have H := bt h H
      refine wkd ?_
      obtain ⟨x3, hx3, H⟩ := ob H
      refine dr_n rfl (xdT (enc := eU8) hx3 (fun _ => rfl) rfl rfl rfl) ?_
      refine wkd ?_
      cases H
      exact weak_of ⟨rfl, rfl, trivial⟩ ⟨rfl, ⟨rfl, rfl⟩, trivial⟩
    · have H := bf h H
      refine wkd ?_
      cases H
      exact weak_of ⟨rfl, rfl, trivial⟩ ⟨rfl, ⟨rfl, rfl⟩, trivial⟩
  refine wkd ?_
  cases H
  exact fin_retW (.cons (.tmp rfl) .nil) rfl rfl rfl rfl (by first | rfl | simp)
def sl1Below (a0 : Tl1Cur) (a1 : Int) : Option (Int × Tl1Cur) :=
  bif leB a1 0 then (some (0, a0)) else (bif leB a1 256 then (Option.bind (sl1Byte a0) fun r1 => bif !eqB a1 0 then (some (Int.tmod r1.1 a1, r1.2)) else none) else (Option.bind (sl1Byte a0) fun r2 => Option.bind (sl1Byte r2.2) fun r3 => Option.bind (sl1Byte r3.2) fun r4 => bif !eqB a1 0 then (some (Int.tmod (WR ((WR ((WR (r2.1 * 65536)) + (WR (r3.1 * 256)))) + r4.1)) a1, r4.2)) else none))
theorem sl1Below_c {a0 : Tl1Cur} {a1 : Int} {r : Int × Tl1Cur} (H : sl1Below a0 a1 = some r) : FnW Try.prog 34 (.var 81 [.d false (.l (a0.fb.map eU8)), .d false (.i .i64 a0.fi), .d false (.i .i64 a0.fh)]) [.v (.c (.p 200 0)), tI a1] (.var 81 [.d false (.l (r.2.fb.map eU8)), .d false (.i .i64 r.2.fi), .d false (.i .i64 r.2.fh)]) [.c (.d (.i .i64 r.1))] := by
  refine fn_inW Try.func34 rfl (by kernel_rfl) Try.ntmps34 rfl rfl rfl rfl rfl ?_
  refine wk ?_
  refine awc_cond rfl (fun h => ?_) (fun h => ?_)
  · have H := bt h H
    refine wk ?_
    cases H
    exact fin_retW (.cons (.tmp rfl) .nil) rfl rfl rfl rfl (by first | rfl | simp)
  · have H := bf h H
    refine wk ?_
    refine awc_cond rfl (fun h => ?_) (fun h => ?_)
    · have H := bt h H
      refine wk ?_
      obtain ⟨r1, hr1, H⟩ := ob H
      refine awr_step rfl (cw (o := 200) (sl1Byte_c hr1) rfl rfl rfl rfl rfl rfl trivial rfl rfl rfl rfl) ?_
      refine wk ?_
      obtain ⟨h, H⟩ := rq H
      refine awr_n rfl (ir rfl rfl rfl (ne0 h)) ?_
      refine wk ?_
      cases H
      exact fin_retW (.cons (.tmp rfl) .nil) rfl rfl rfl rfl (by first | rfl | simp)
    · have H := bf h H
      refine wk ?_
      obtain ⟨r2, hr2, H⟩ := ob H
      refine awr_step rfl (cw (o := 200) (sl1Byte_c hr2) rfl rfl rfl rfl rfl rfl trivial rfl rfl rfl rfl) ?_
      refine wk ?_
      obtain ⟨r3, hr3, H⟩ := ob H
      refine awr_step rfl (cw (o := 200) (sl1Byte_c hr3) rfl rfl rfl rfl rfl rfl trivial rfl rfl rfl rfl) ?_
      refine wk ?_
      obtain ⟨r4, hr4, H⟩ := ob H
      refine awr_step rfl (cw (o := 200) (sl1Byte_c hr4) rfl rfl rfl rfl rfl rfl trivial rfl rfl rfl rfl) ?_
      refine wk ?_
      obtain ⟨h, H⟩ := rq H
      refine awr_n rfl (ir rfl rfl rfl (ne0 h)) ?_
      refine wk ?_
      cases H
      exact fin_retW (.cons (.tmp rfl) .nil) rfl rfl rfl rfl (by first | rfl | simp)
def sl4Who (a0 : Tl1Cur) : Option (TSubscriberID × Tl1Cur) :=
  Option.bind (sl1Below a0 3) fun r1 => Option.bind (sl1Below r1.2 5) fun r2 => some ((⟨r1.1, r2.1⟩ : TSubscriberID), r2.2)
theorem sl4Who_c {a0 : Tl1Cur} {r : TSubscriberID × Tl1Cur} (H : sl4Who a0 = some r) : FnW Try.prog 41 (.var 81 [.d false (.l (a0.fb.map eU8)), .d false (.i .i64 a0.fi), .d false (.i .i64 a0.fh)]) [.v (.c (.p 200 0))] (.var 81 [.d false (.l (r.2.fb.map eU8)), .d false (.i .i64 r.2.fi), .d false (.i .i64 r.2.fh)]) [.agg [.d (.i .i64 r.1.Network), .d (.i .i64 r.1.Number)]] := by
  refine fn_inW Try.func41 rfl (by kernel_rfl) Try.ntmps41 rfl rfl rfl rfl rfl ?_
  refine wk ?_
  obtain ⟨r1, hr1, H⟩ := ob H
  refine awr_step rfl (cw (o := 200) (sl1Below_c hr1) rfl rfl rfl rfl rfl rfl trivial rfl rfl rfl rfl) ?_
  refine wk ?_
  obtain ⟨r2, hr2, H⟩ := ob H
  refine awr_step rfl (cw (o := 200) (sl1Below_c hr2) rfl rfl rfl rfl rfl rfl trivial rfl rfl rfl rfl) ?_
  refine wk ?_
  cases H
  exact fin_retW (.cons (.cell rfl rfl rfl) .nil) rfl rfl rfl rfl (by first | rfl | simp)
def sFindRegistration_L1 (a0 : List TRegistration) (a1 : TSubscriberID) : Int → Option (Step (Int) (Int))
  | v1 => bif ltB v1 ((a0.length : Nat) : Int) then (Option.bind (ix a0 v1) fun x2 => bif (eqB x2.ID.Network a1.Network && (eqB x2.ID.Number a1.Number && true)) then (dn (some v1)) else (some (.next (WR (v1 + 1))))) else (dn (some (-1)))
def sFindRegistration (a0 : List TRegistration) (a1 : TSubscriberID) : Option Int :=
  iter (sFindRegistration_L1 a0 a1) FU 0
theorem sFindRegistration_c {a0 : List TRegistration} {a1 : TSubscriberID} {r : Int} (H : sFindRegistration a0 a1 = some r) : Fn Try.prog 9 [aL (a0.map eTRegistration), .agg (eTSubscriberID a1)] [.c (.d (.i .i64 r))] := by
  refine fn_in Try.func9 rfl (by kernel_rfl) Try.ntmps9 rfl rfl rfl ?_
  refine wkd ?_
  refine awc_iter (fun (q : Int) => ⟨[(0, .v (.c (.d false (.l (a0.map eTRegistration))))), (3, .v (.c (.p 0 0))), (5, tI q)], [(0, .var 30 [.d false (.i .i64 a1.Network), .d false (.i .i64 a1.Number)])], 1⟩) H (weak_of ⟨rfl, rfl, rfl, rfl, rfl, rfl, trivial⟩ ⟨rfl, ⟨rfl, rfl⟩, trivial⟩) ?_
  rintro v1 o H
  try dsimp only
  refine wkd ?_
  refine awc_cond rfl (fun h => ?_) (fun h => ?_)
  · have H := bt h H
    refine wkd ?_
    obtain ⟨x2, hx2, H⟩ := ob H
    refine dr_n rfl (xdT (enc := eTRegistration) hx2 (fun _ => rfl) rfl rfl rfl) ?_
    refine wkd ?_
    refine awc_cond rfl (fun h => ?_) (fun h => ?_)
    · have H := bt h H
      refine wkd ?_
      obtain ⟨r0, Hd, rfl⟩ := dnE H
      refine iq_r (fun hq => ?_)
      have H := Hd.trans (congrArg some hq)
      refine wkd ?_
      cases H
      exact fin_ret (.cons (.tmp rfl) .nil) rfl rfl rfl
    · have H := bf h H
      refine wkd ?_
      cases H
      refine iq_n ?_
      exact weak_of ⟨rfl, rfl, rfl, rfl, rfl, rfl, trivial⟩ ⟨rfl, ⟨rfl, rfl⟩, trivial⟩
  · have H := bf h H
    refine wkd ?_
    obtain ⟨r0, Hd, rfl⟩ := dnE H
    refine iq_e (fun hq => ?_)
    have H := Hd.trans (congrArg some hq)
    refine wkd ?_
    cases H
    exact fin_ret (.cons (.tmp rfl) .nil) rfl rfl rfl
def sl21Copy (a0 : List TRegistration) : Option (List TRegistration) :=
  bif apOk 48 (([] : List TRegistration) ++ a0).length then (some (([] : List TRegistration) ++ a0)) else none
theorem sl21Copy_c {a0 : List TRegistration} {r : List TRegistration} (H : sl21Copy a0 = some r) : Fn Try.prog 62 [aL (a0.map eTRegistration)] [.c (.own 34 6 (r.map eTRegistration) r.length)] := by
  refine fn_in Try.func62 rfl (by kernel_rfl) Try.ntmps62 rfl rfl rfl ?_
  refine wk ?_
  obtain ⟨h, H⟩ := rq H
  refine awr_step rfl (apT (enc := eTRegistration) (ys := ([] : List TRegistration)) (zs := a0) h rfl (fun _ => rfl) (by first | rfl | simp) .d rfl rfl rfl rfl rfl rfl rfl rfl) ?_
  refine awr_weak (weak_flat (enc := eTRegistration) (o := 0) rfl (fun _ => rfl)) ?_
  refine wk ?_
  cases H
  exact fin_ret (.cons (.tmp rfl) .nil) rfl rfl (by first | rfl | simp)
def sl1In (a0 : Int) (a1 : Int) (a2 : Int) : Option Bool :=
  Option.bind (bif leB a1 a0 then (some (leB a0 a2)) else (some false)) fun (v1 : Bool) => some v1
theorem sl1In_c {a0 : Int} {a1 : Int} {a2 : Int} {r : Bool} (H : sl1In a0 a1 a2 = some r) : Fn Try.prog 38 [aI a0, aI a1, aI a2] [.c (.d (.b r))] := by
  refine fn_in Try.func38 rfl (by kernel_rfl) Try.ntmps38 rfl rfl rfl ?_
  refine wk ?_
  obtain ⟨v1, Hj, H⟩ := ob H
  refine awr_join ⟨[(6, tB v1)], [], 0⟩ ?_ ?_
  · have H := Hj
    refine wk ?_
    refine g2 rfl rfl rfl (fun h => ?_) (fun h => ?_)
    · have H := bt h H
      refine wk ?_
      cases H
      exact weak_of ⟨rfl, rfl, trivial⟩ trivial
    · have H := bf h H
      refine wk ?_
      cases H
      exact weak_of ⟨rfl, rfl, trivial⟩ trivial
  refine wk ?_
  cases H
  exact fin_ret (.cons (.tmp rfl) .nil) rfl rfl rfl
def sIsValidSubscriberID (a0 : TSubscriberID) : Option Bool :=
  Option.bind (sl1In a0.Network 0 3) fun r1 => Option.bind (bif r1 then (Option.bind (sl1In a0.Number 0 99) fun r3 => some r3) else (some false)) fun (v2 : Bool) => some v2
theorem sIsValidSubscriberID_c {a0 : TSubscriberID} {r : Bool} (H : sIsValidSubscriberID a0 = some r) : Fn Try.prog 14 [.agg (eTSubscriberID a0)] [.c (.d (.b r))] := by
  refine fn_in Try.func14 rfl (by kernel_rfl) Try.ntmps14 rfl rfl rfl ?_
  refine wk ?_
  obtain ⟨r1, hr1, H⟩ := ob H
  refine awr_n rfl (ca rfl rfl rfl (sl1In_c hr1) trivial rfl rfl rfl rfl) ?_
  refine wk ?_
  obtain ⟨v2, Hj, H⟩ := ob H
  refine awr_join ⟨[(2, tB v2)], [], 0⟩ ?_ ?_
  · have H := Hj
    refine wk ?_
    refine g2 rfl rfl rfl (fun h => ?_) (fun h => ?_)
    · have H := bt h H
      refine wk ?_
      obtain ⟨r3, hr3, H⟩ := ob H
      refine awr_ng rfl rfl rfl rfl (ca rfl rfl rfl (sl1In_c hr3) trivial rfl rfl rfl rfl) ?_
      refine wk ?_
      cases H
      exact weak_of ⟨rfl, rfl, trivial⟩ trivial
    · have H := bf h H
      refine wk ?_
      cases H
      exact weak_of ⟨rfl, rfl, trivial⟩ trivial
  refine wk ?_
  cases H
  exact fin_ret (.cons (.tmp rfl) .nil) rfl rfl rfl
def sIsValidTempID (a0 : TTempID) : Option Bool :=
  Option.bind (sl1In a0.Pool 0 3) fun r1 => Option.bind (bif r1 then (Option.bind (sl1In a0.Number 0 9999) fun r3 => some r3) else (some false)) fun (v2 : Bool) => some v2
theorem sIsValidTempID_c {a0 : TTempID} {r : Bool} (H : sIsValidTempID a0 = some r) : Fn Try.prog 67 [.agg (eTTempID a0)] [.c (.d (.b r))] := by
  refine fn_in Try.func67 rfl (by kernel_rfl) Try.ntmps67 rfl rfl rfl ?_
  refine wk ?_
  obtain ⟨r1, hr1, H⟩ := ob H
  refine awr_n rfl (ca rfl rfl rfl (sl1In_c hr1) trivial rfl rfl rfl rfl) ?_
  refine wk ?_
  obtain ⟨v2, Hj, H⟩ := ob H
  refine awr_join ⟨[(2, tB v2)], [], 0⟩ ?_ ?_
  · have H := Hj
    refine wk ?_
    refine g2 rfl rfl rfl (fun h => ?_) (fun h => ?_)
    · have H := bt h H
      refine wk ?_
      obtain ⟨r3, hr3, H⟩ := ob H
      refine awr_ng rfl rfl rfl rfl (ca rfl rfl rfl (sl1In_c hr3) trivial rfl rfl rfl rfl) ?_
      refine wk ?_
      cases H
      exact weak_of ⟨rfl, rfl, trivial⟩ trivial
    · have H := bf h H
      refine wk ?_
      cases H
      exact weak_of ⟨rfl, rfl, trivial⟩ trivial
  refine wk ?_
  cases H
  exact fin_ret (.cons (.tmp rfl) .nil) rfl rfl rfl
def sl21Temp_L1 (a0 : List TRegistration) (a1 : Int) (a2 : TTempID) : Int → Option (Step (Int) (Int))
  | v1 => bif ltB v1 ((a0.length : Nat) : Int) then (Option.bind (ix a0 v1) fun x2 => Option.bind (bif eqB x2.Network a1 then (Option.bind (ix a0 v1) fun x4 => some (eqB x4.TempID.Pool a2.Pool && (eqB x4.TempID.Number a2.Number && true))) else (some false)) fun (v3 : Bool) => bif v3 then (dn (some v1)) else (some (.next (WR (v1 + 1))))) else (dn (some (-1)))
def sl21Temp (a0 : List TRegistration) (a1 : Int) (a2 : TTempID) : Option Int :=
  iter (sl21Temp_L1 a0 a1 a2) FU 0
theorem sl21Temp_c {a0 : List TRegistration} {a1 : Int} {a2 : TTempID} {r : Int} (H : sl21Temp a0 a1 a2 = some r) : Fn Try.prog 68 [aL (a0.map eTRegistration), aI a1, .agg (eTTempID a2)] [.c (.d (.i .i64 r))] := by
  refine fn_in Try.func68 rfl (by kernel_rfl) Try.ntmps68 rfl rfl rfl ?_
  refine wkd ?_
  refine awc_iter (fun (q : Int) => ⟨[(0, .v (.c (.d false (.l (a0.map eTRegistration))))), (1, tI a1), (5, .v (.c (.p 0 0))), (7, tI q)], [(0, .var 32 [.d false (.i .i64 a2.Pool), .d false (.i .i64 a2.Number)])], 1⟩) H (weak_of ⟨rfl, rfl, rfl, rfl, rfl, rfl, rfl, rfl, trivial⟩ ⟨rfl, ⟨rfl, rfl⟩, trivial⟩) ?_
  rintro v1 o H
  try dsimp only
  refine wkd ?_
  refine awc_cond rfl (fun h => ?_) (fun h => ?_)
  · have H := bt h H
    refine wkd ?_
    obtain ⟨x2, hx2, H⟩ := ob H
    refine dr_n rfl (xdT (enc := eTRegistration) hx2 (fun _ => rfl) rfl rfl rfl) ?_
    refine wkd ?_
    obtain ⟨v3, Hj, H⟩ := ob H
    refine dr_join ⟨[(0, .v (.c (.d false (.l (a0.map eTRegistration))))), (1, tI a1), (5, .v (.c (.p 0 0))), (7, tI v1), (29, tB v3)], [(0, .var 32 [.d false (.i .i64 a2.Pool), .d false (.i .i64 a2.Number)])], 1⟩ ?_ ?_
    · have H := Hj
      refine wkd ?_
      refine dg2 rfl rfl rfl (fun h => ?_) (fun h => ?_)
      · have H := bt h H
        refine wkd ?_
        obtain ⟨x4, hx4, H⟩ := ob H
        refine dr_ng rfl rfl rfl rfl (xdT (enc := eTRegistration) hx4 (fun _ => rfl) rfl rfl rfl) ?_
        refine wkd ?_
        cases H
        exact weak_of ⟨rfl, rfl, rfl, rfl, rfl, rfl, rfl, rfl, rfl, rfl, trivial⟩ ⟨rfl, ⟨rfl, rfl⟩, trivial⟩
      · have H := bf h H
        refine wkd ?_
        cases H
        exact weak_of ⟨rfl, rfl, rfl, rfl, rfl, rfl, rfl, rfl, rfl, rfl, trivial⟩ ⟨rfl, ⟨rfl, rfl⟩, trivial⟩
    refine wkd ?_
    refine awc_cond rfl (fun h => ?_) (fun h => ?_)
    · have H := bt h H
      refine wkd ?_
      obtain ⟨r0, Hd, rfl⟩ := dnE H
      refine iq_r (fun hq => ?_)
      have H := Hd.trans (congrArg some hq)
      refine wkd ?_
      cases H
      exact fin_ret (.cons (.tmp rfl) .nil) rfl rfl rfl
    · have H := bf h H
      refine wkd ?_
      cases H
      refine iq_n ?_
      exact weak_of ⟨rfl, rfl, rfl, rfl, rfl, rfl, rfl, rfl, trivial⟩ ⟨rfl, ⟨rfl, rfl⟩, trivial⟩
  · have H := bf h H
    refine wkd ?_
    obtain ⟨r0, Hd, rfl⟩ := dnE H
    refine iq_e (fun hq => ?_)
    have H := Hd.trans (congrArg some hq)
    refine wkd ?_
    cases H
    exact fin_ret (.cons (.tmp rfl) .nil) rfl rfl rfl
def sAreValidRegistrations_L1 (a0 : List TRegistration) : Int → Option (Step (Int) (Bool))
  | v1 => bif ltB v1 ((a0.length : Nat) : Int) then (Option.bind (ix a0 v1) fun x2 => Option.bind (sIsValidSubscriberID x2.ID) fun r3 => Option.bind (bif !r3 then (some true) else (bif slOk a0 0 v1 then (Option.bind (sFindRegistration (a0.take (v1).toNat) x2.ID) fun r5 => bif leB 0 r5 then (some true) else (Option.bind (sl1In x2.Network 0 3) fun r6 => bif !r6 then (some true) else (Option.bind (sl1In x2.Area 0 2) fun r7 => bif !r7 then (some true) else (Option.bind (sIsValidTempID x2.TempID) fun r8 => bif !r8 then (some true) else (bif slOk a0 0 v1 then (Option.bind (sl21Temp (a0.take (v1).toNat) x2.Network x2.TempID) fun r9 => some (leB 0 r9)) else none))))) else none)) fun (v4 : Bool) => bif v4 then (dn (some false)) else (some (.next (WR (v1 + 1))))) else (dn (some (leB ((a0.length : Nat) : Int) 8)))
def sAreValidRegistrations (a0 : List TRegistration) : Option Bool :=
  iter (sAreValidRegistrations_L1 a0) FU 0
theorem sAreValidRegistrations_c {a0 : List TRegistration} {r : Bool} (H : sAreValidRegistrations a0 = some r) : Fn Try.prog 63 [aL (a0.map eTRegistration)] [.c (.d (.b r))] := by
  refine fn_in Try.func63 rfl (by kernel_rfl) Try.ntmps63 rfl rfl rfl ?_
  refine wkd ?_
  refine awc_iter (fun (q : Int) => ⟨[(0, .v (.c (.d false (.l (a0.map eTRegistration))))), (3, tI q)], [], 0⟩) H (weak_of ⟨rfl, rfl, rfl, rfl, trivial⟩ trivial) ?_
  rintro v1 o H
  try dsimp only
  refine wkd ?_
  refine awc_cond rfl (fun h => ?_) (fun h => ?_)
  · have H := bt h H
    refine wkd ?_
    obtain ⟨x2, hx2, H⟩ := ob H
    refine awr_n rfl (xdT (enc := eTRegistration) hx2 (fun _ => rfl) rfl rfl rfl) ?_
    refine wkd ?_
    obtain ⟨r3, hr3, H⟩ := ob H
    refine dr_n rfl (ca rfl rfl rfl (sIsValidSubscriberID_c hr3) trivial rfl rfl rfl rfl) ?_
    refine wkd ?_
    obtain ⟨v4, Hj, H⟩ := ob H
    refine dr_join ⟨[(0, .v (.c (.d false (.l (a0.map eTRegistration))))), (3, tI v1), (56, tB v4)], [], 0⟩ ?_ ?_
    · have H := Hj
      refine wkd ?_
      refine dg2 rfl rfl rfl (fun h => ?_) (fun h => ?_)
      · have H := bt h H
        refine wkd ?_
        cases H
        exact weak_of ⟨rfl, rfl, rfl, rfl, rfl, rfl, trivial⟩ trivial
      · have H := bf h H
        refine wkd ?_
        obtain ⟨h, H⟩ := rq H
        refine dr_ng rfl rfl rfl rfl (cdhT (enc := eTRegistration) h (fun _ => rfl) rfl rfl rfl) ?_
        refine wkd ?_
        obtain ⟨r5, hr5, H⟩ := ob H
        refine dr_ng rfl rfl rfl rfl (ca rfl rfl rfl (sFindRegistration_c hr5) trivial rfl rfl rfl rfl) ?_
        refine wkd ?_
        refine dg2 rfl rfl rfl (fun h => ?_) (fun h => ?_)
        · have H := bt h H
          refine wkd ?_
          cases H
          exact weak_of ⟨rfl, rfl, rfl, rfl, rfl, rfl, trivial⟩ trivial
        · have H := bf h H
          refine wkd ?_
          obtain ⟨r6, hr6, H⟩ := ob H
          refine dr_ng rfl rfl rfl rfl (ca rfl rfl rfl (sl1In_c hr6) trivial rfl rfl rfl rfl) ?_
          refine wkd ?_
          refine dg2 rfl rfl rfl (fun h => ?_) (fun h => ?_)
          · have H := bt h H
            refine wkd ?_
            cases H
            exact weak_of ⟨rfl, rfl, rfl, rfl, rfl, rfl, trivial⟩ trivial
          · have H := bf h H
            refine wkd ?_
            obtain ⟨r7, hr7, H⟩ := ob H
            refine dr_ng rfl rfl rfl rfl (ca rfl rfl rfl (sl1In_c hr7) trivial rfl rfl rfl rfl) ?_
            refine wkd ?_
            refine dg2 rfl rfl rfl (fun h => ?_) (fun h => ?_)
            · have H := bt h H
              refine wkd ?_
              cases H
              exact weak_of ⟨rfl, rfl, rfl, rfl, rfl, rfl, trivial⟩ trivial
            · have H := bf h H
              refine wkd ?_
              obtain ⟨r8, hr8, H⟩ := ob H
              refine dr_ng rfl rfl rfl rfl (ca rfl rfl rfl (sIsValidTempID_c hr8) trivial rfl rfl rfl rfl) ?_
              refine wkd ?_
              refine dg2 rfl rfl rfl (fun h => ?_) (fun h => ?_)
              · have H := bt h H
                refine wkd ?_
                cases H
                exact weak_of ⟨rfl, rfl, rfl, rfl, rfl, rfl, trivial⟩ trivial
              · have H := bf h H
                refine wkd ?_
                obtain ⟨h, H⟩ := rq H
                refine dr_ng rfl rfl rfl rfl (cdhT (enc := eTRegistration) h (fun _ => rfl) rfl rfl rfl) ?_
                refine wkd ?_
                obtain ⟨r9, hr9, H⟩ := ob H
                refine dr_ng rfl rfl rfl rfl (ca rfl rfl rfl (sl21Temp_c hr9) trivial rfl rfl rfl rfl) ?_
                refine wkd ?_
                cases H
                exact weak_of ⟨rfl, rfl, rfl, rfl, rfl, rfl, trivial⟩ trivial
    refine wkd ?_
    refine awc_cond rfl (fun h => ?_) (fun h => ?_)
    · have H := bt h H
      refine wkd ?_
      obtain ⟨r0, Hd, rfl⟩ := dnE H
      refine iq_r (fun hq => ?_)
      have H := Hd.trans (congrArg some hq)
      refine wkd ?_
      cases H
      exact fin_ret (.cons (.tmp rfl) .nil) rfl rfl rfl
    · have H := bf h H
      refine wkd ?_
      cases H
      refine iq_n ?_
      exact weak_of ⟨rfl, rfl, rfl, rfl, trivial⟩ trivial
  · have H := bf h H
    refine wkd ?_
    obtain ⟨r0, Hd, rfl⟩ := dnE H
    refine iq_e (fun hq => ?_)
    have H := Hd.trans (congrArg some hq)
    refine wkd ?_
    cases H
    exact fin_ret (.cons (.tmp rfl) .nil) rfl rfl rfl
def sRegister (a0 : List TRegistration) (a1 : TRegistration) : Option (List TRegistration × Int × Bool) :=
  Option.bind (sl21Copy a0) fun r1 => Option.bind (sFindRegistration a0 a1.ID) fun r2 => Option.bind (bif leB 0 r2 then (Option.bind (ix a0 r2) fun x5 => Option.bind (ix r1 r2) fun x6 => some (x5.Network, (r1.set (r2).toNat a1))) else (bif apOk 48 (r1 ++ [a1]).length then (some (-1, (r1 ++ [a1]))) else none)) fun ((v3, v4) : Int × List TRegistration) => Option.bind (sAreValidRegistrations v4) fun r7 => bif !r7 then (Option.bind (sl21Copy a0) fun r8 => some (r8, -1, false)) else (some (v4, v3, true))
theorem sRegister_c {a0 : List TRegistration} {a1 : TRegistration} {r : List TRegistration × Int × Bool} (H : sRegister a0 a1 = some r) : Fn Try.prog 49 [aL (a0.map eTRegistration), .agg (eTRegistration a1)] [.c (.own 34 6 (r.1.map eTRegistration) r.1.length), .c (.d (.i .i64 r.2.1)), .c (.d (.b r.2.2))] := by
  refine fn_in Try.func49 rfl (by kernel_rfl) Try.ntmps49 rfl rfl rfl ?_
  refine wk ?_
  obtain ⟨r1, hr1, H⟩ := ob H
  refine awr_n rfl (ca rfl rfl rfl (sl21Copy_c hr1) trivial rfl rfl rfl rfl) ?_
  refine wk ?_
  obtain ⟨r2, hr2, H⟩ := ob H
  refine awr_n rfl (ca rfl rfl rfl (sFindRegistration_c hr2) trivial rfl rfl rfl rfl) ?_
  refine wk ?_
  obtain ⟨⟨v3, v4⟩, Hj, H⟩ := ob H
  refine awc_join ⟨[(0, .v (.c (.d false (.l (a0.map eTRegistration))))), (7, .v (.c (.w 1 v4.length))), (9, tI v3)], [(1, .row 34 6 (v4.map eTRegistration) true true)], 2⟩ ?_ ?_
  · have H := Hj
    refine wk ?_
    refine awc_cond rfl (fun h => ?_) (fun h => ?_)
    · have H := bt h H
      refine wk ?_
      obtain ⟨x5, hx5, H⟩ := ob H
      refine awr_n rfl (xdT (enc := eTRegistration) hx5 (fun _ => rfl) rfl rfl rfl) ?_
      refine wk ?_
      obtain ⟨x6, hx6, H⟩ := ob H
      refine awr_n rfl (xwT hx6 (by first | rfl | simp) rfl rfl rfl) ?_
      refine wk ?_
      refine awr_step rfl (soT (enc := eTRegistration) (a' := a1) hx6 rfl rfl rfl rfl rfl rfl rfl) ?_
      refine wk ?_
      cases H
      exact weak_of ⟨rfl, rfl, wn rfl (by first | rfl | simp), rfl, rfl, rfl, trivial⟩ ⟨rfl, ⟨rfl, rfl⟩, trivial⟩
    · have H := bf h H
      refine wk ?_
      obtain ⟨h, H⟩ := rq H
      refine awr_step rfl (apT (enc := eTRegistration) (ys := r1) (zs := [a1]) h rfl (fun _ => rfl) (by first | rfl | simp) (.w rfl (by first | rfl | exact lm _ | simp)) rfl rfl rfl rfl rfl rfl rfl rfl) ?_
      refine wk ?_
      cases H
      exact weak_of ⟨rfl, rfl, wn rfl (by first | rfl | simp), rfl, rfl, rfl, trivial⟩ ⟨rfl, ⟨rfl, rfl⟩, trivial⟩
  refine wk ?_
  obtain ⟨r7, hr7, H⟩ := ob H
  refine awr_n rfl (ca rfl rfl rfl (sAreValidRegistrations_c hr7) ⟨by first | rfl | exact lm _, trivial⟩ rfl rfl rfl rfl) ?_
  refine wk ?_
  refine awc_cond rfl (fun h => ?_) (fun h => ?_)
  · have H := bt h H
    refine wk ?_
    obtain ⟨r8, hr8, H⟩ := ob H
    refine awr_n rfl (ca rfl rfl rfl (sl21Copy_c hr8) trivial rfl rfl rfl rfl) ?_
    refine wk ?_
    cases H
    exact fin_ret (.cons (.tmp rfl) (.cons (.tmp rfl) (.cons (.tmp rfl) .nil))) rfl rfl (by first | rfl | simp)
  · have H := bf h H
    refine wk ?_
    cases H
    exact fin_ret (.cons (.tmp rfl) (.cons (.tmp rfl) (.cons (.tmp rfl) .nil))) rfl rfl (by first | rfl | simp)
def sMod (a0 : Int) (a1 : Int) : Option Int :=
  Option.bind (sl1In a1 1 1000000000000) fun r1 => bif !r1 then (some 0) else (bif !eqB a1 0 then (bif !eqB a1 0 then (some (Int.tmod (WR ((Int.tmod a0 a1) + a1)) a1)) else none) else none)
theorem sMod_c {a0 : Int} {a1 : Int} {r : Int} (H : sMod a0 a1 = some r) : Fn Try.prog 69 [aI a0, aI a1] [.c (.d (.i .i64 r))] := by
  refine fn_in Try.func69 rfl (by kernel_rfl) Try.ntmps69 rfl rfl rfl ?_
  refine wk ?_
  obtain ⟨r1, hr1, H⟩ := ob H
  refine awr_n rfl (ca rfl rfl rfl (sl1In_c hr1) trivial rfl rfl rfl rfl) ?_
  refine wk ?_
  refine awc_cond rfl (fun h => ?_) (fun h => ?_)
  · have H := bt h H
    refine wk ?_
    cases H
    exact fin_ret (.cons (.tmp rfl) .nil) rfl rfl rfl
  · have H := bf h H
    refine wk ?_
    obtain ⟨h, H⟩ := rq H
    refine awr_n rfl (ir rfl rfl rfl (ne0 h)) ?_
    refine wk ?_
    obtain ⟨h, H⟩ := rq H
    refine awr_n rfl (ir rfl rfl rfl (ne0 h)) ?_
    refine wk ?_
    cases H
    exact fin_ret (.cons (.tmp rfl) .nil) rfl rfl rfl
def sHash_L1 (a0 : List Int) : (Int × Int) → Option (Step (Int × Int) (Int))
  | (v1, v2) => bif ltB v2 ((a0.length : Nat) : Int) then (Option.bind (ix a0 v2) fun x6 => Option.bind (sMod x6 2147483647) fun r7 => some (.next (Int.tmod (WR ((WR ((WR (v1 * 1000003)) + r7)) + 13)) 2147483647, WR (v2 + 1)))) else (some (.done v1))
def sHash (a0 : List Int) : Option Int :=
  Option.bind (iter (sHash_L1 a0) FU (11, 0)) fun (v5 : Int) => some v5
theorem sHash_c {a0 : List Int} {r : Int} (H : sHash a0 = some r) : Fn Try.prog 72 [aL (a0.map eI)] [.c (.d (.i .i64 r))] := by
  refine fn_in Try.func72 rfl (by kernel_rfl) Try.ntmps72 rfl rfl rfl ?_
  refine wk ?_
  obtain ⟨v5, Hj, H⟩ := ob H
  refine awc_jblk ⟨[(3, tI v5)], [], 0⟩ ?_ ?_
  · refine wk ?_
    refine awc_iter (fun (q : Int × Int) => ⟨[(0, .v (.c (.d false (.l (a0.map eI))))), (3, tI q.1), (4, tI q.2)], [], 0⟩) Hj (weak_of ⟨rfl, rfl, rfl, rfl, rfl, rfl, trivial⟩ trivial) ?_
    rintro ⟨v1, v2⟩ o H
    try dsimp only
    refine wk ?_
    refine awc_cond rfl (fun h => ?_) (fun h => ?_)
    · have H := bt h H
      refine wk ?_
      obtain ⟨x6, hx6, H⟩ := ob H
      refine awr_n rfl (xdT (enc := eI) hx6 (fun _ => rfl) rfl rfl rfl) ?_
      refine wk ?_
      obtain ⟨r7, hr7, H⟩ := ob H
      refine awr_n rfl (ca rfl rfl rfl (sMod_c hr7) trivial rfl rfl rfl rfl) ?_
      refine wk ?_
      refine awr_n rfl (ir rfl rfl rfl (by decide)) ?_
      refine wk ?_
      cases H
      refine iq_n ?_
      exact weak_of ⟨rfl, rfl, rfl, rfl, rfl, rfl, trivial⟩ trivial
    · have H := bf h H
      refine wk ?_
      cases H
      refine iq_e (fun hq => ?_)
      cases hq
      refine wk ?_
      exact weak_of ⟨rfl, rfl, trivial⟩ trivial
  refine wk ?_
  cases H
  exact fin_ret (.cons (.tmp rfl) .nil) rfl rfl rfl
def sKeyedHash (a0 : Int) (a1 : List Int) : Option Int :=
  bif apOk 8 ([a0] ++ a1).length then (bif apOk 8 (([a0] ++ a1) ++ [a0]).length then (Option.bind (sHash (([a0] ++ a1) ++ [a0])) fun r1 => some r1) else none) else none
theorem sKeyedHash_c {a0 : Int} {a1 : List Int} {r : Int} (H : sKeyedHash a0 a1 = some r) : Fn Try.prog 70 [aI a0, aL (a1.map eI)] [.c (.d (.i .i64 r))] := by
  refine fn_in Try.func70 rfl (by kernel_rfl) Try.ntmps70 rfl rfl rfl ?_
  refine wk ?_
  obtain ⟨h, H⟩ := rq H
  refine awr_step rfl (apT (enc := eI) (ys := [a0]) (zs := a1) h rfl (fun _ => rfl) (by first | rfl | simp) .d rfl rfl rfl rfl rfl rfl rfl rfl) ?_
  refine awr_weak (weak_flat (enc := eI) (o := 0) rfl (fun _ => rfl)) ?_
  refine wk ?_
  obtain ⟨h, H⟩ := rq H
  refine awr_step rfl (apT (enc := eI) (ys := ([a0] ++ a1)) (zs := [a0]) h rfl (fun _ => rfl) (by first | rfl | simp) (.w rfl (by first | rfl | exact lm _ | simp)) rfl rfl rfl rfl rfl rfl rfl rfl) ?_
  refine wk ?_
  obtain ⟨r1, hr1, H⟩ := ob H
  refine awr_n rfl (ca rfl rfl rfl (sHash_c hr1) ⟨by first | rfl | exact lm _, trivial⟩ rfl rfl rfl rfl) ?_
  refine wk ?_
  cases H
  exact fin_ret (.cons (.tmp rfl) .nil) rfl rfl rfl
def sTempIDCandidate (a0 : Int) (a1 : Int) (a2 : TSubscriberID) (a3 : Int) : Option TTempID :=
  Option.bind (sKeyedHash a0 [a2.Network, a2.Number, a3]) fun r1 => Option.bind (sMod r1 10000) fun r2 => some (⟨a1, r2⟩ : TTempID)
theorem sTempIDCandidate_c {a0 : Int} {a1 : Int} {a2 : TSubscriberID} {a3 : Int} {r : TTempID} (H : sTempIDCandidate a0 a1 a2 a3 = some r) : Fn Try.prog 64 [aI a0, aI a1, .agg (eTSubscriberID a2), aI a3] [.agg [.d (.i .i64 r.Pool), .d (.i .i64 r.Number)]] := by
  refine fn_in Try.func64 rfl (by kernel_rfl) Try.ntmps64 rfl rfl rfl ?_
  refine wk ?_
  obtain ⟨r1, hr1, H⟩ := ob H
  refine awr_n rfl (ca rfl rfl rfl (sKeyedHash_c hr1) ⟨by first | rfl | exact lm _, trivial⟩ rfl rfl rfl rfl) ?_
  refine wk ?_
  obtain ⟨r2, hr2, H⟩ := ob H
  refine awr_n rfl (ca rfl rfl rfl (sMod_c hr2) trivial rfl rfl rfl rfl) ?_
  refine wk ?_
  cases H
  exact fin_ret (.cons (.cell rfl rfl rfl) .nil) rfl rfl rfl
def sl21One (a0 : Tl1Cur) : Option (TRegistration × Tl1Cur) :=
  Option.bind (sl4Who a0) fun r1 => Option.bind (sl1Below r1.2 3) fun r2 => Option.bind (sl1Below r2.2 3) fun r3 => Option.bind (sl1Below r3.2 3) fun r4 => Option.bind (sl1Below r4.2 3) fun r5 => Option.bind (sTempIDCandidate (WR (100 + r4.1)) 1 r1.1 r5.1) fun r6 => some ((⟨r1.1, r2.1, r3.1, r6⟩ : TRegistration), r5.2)
theorem sl21One_c {a0 : Tl1Cur} {r : TRegistration × Tl1Cur} (H : sl21One a0 = some r) : FnW Try.prog 50 (.var 81 [.d false (.l (a0.fb.map eU8)), .d false (.i .i64 a0.fi), .d false (.i .i64 a0.fh)]) [.v (.c (.p 200 0))] (.var 81 [.d false (.l (r.2.fb.map eU8)), .d false (.i .i64 r.2.fi), .d false (.i .i64 r.2.fh)]) [.agg [.d (.i .i64 r.1.ID.Network), .d (.i .i64 r.1.ID.Number), .d (.i .i64 r.1.Network), .d (.i .i64 r.1.Area), .d (.i .i64 r.1.TempID.Pool), .d (.i .i64 r.1.TempID.Number)]] := by
  refine fn_inW Try.func50 rfl (by kernel_rfl) Try.ntmps50 rfl rfl rfl rfl rfl ?_
  refine wkz ?_
  obtain ⟨r1, hr1, H⟩ := ob H
  refine awr_step rfl (cw (o := 200) (sl4Who_c hr1) rfl rfl rfl rfl rfl rfl trivial rfl rfl rfl rfl) ?_
  refine wkz ?_
  refine awc_dz [0, 1, 2, 3, 4, 5, 6, 7, 8, 9, 10, 11, 12, 13] Try.follows (by kernel_rfl) (by kernel_rfl) rfl ?_
  refine wkz ?_
  obtain ⟨r2, hr2, H⟩ := ob H
  refine dz_w rfl (cwx (o := 200) (sl1Below_c hr2) rfl rfl rfl rfl rfl rfl trivial rfl rfl rfl rfl) ?_
  refine wkz ?_
  obtain ⟨r3, hr3, H⟩ := ob H
  refine dz_w rfl (cwx (o := 200) (sl1Below_c hr3) rfl rfl rfl rfl rfl rfl trivial rfl rfl rfl rfl) ?_
  refine wkz ?_
  obtain ⟨r4, hr4, H⟩ := ob H
  refine dz_w rfl (cwx (o := 200) (sl1Below_c hr4) rfl rfl rfl rfl rfl rfl trivial rfl rfl rfl rfl) ?_
  refine wkz ?_
  obtain ⟨r5, hr5, H⟩ := ob H
  refine dz_w rfl (cwx (o := 200) (sl1Below_c hr5) rfl rfl rfl rfl rfl rfl trivial rfl rfl rfl rfl) ?_
  refine wkz ?_
  obtain ⟨r6, hr6, H⟩ := ob H
  refine dz_n rfl (ca rfl rfl rfl (sTempIDCandidate_c hr6) trivial rfl rfl rfl rfl) ?_
  refine wkz ?_
  refine dz_w rfl (spx 100002 rfl rfl rfl rfl rfl rfl rfl rfl) ?_
  refine wkz ?_
  cases H
  exact fin_retW (.cons (.cell rfl rfl rfl) .nil) rfl rfl rfl rfl (by first | rfl | simp)
def sl1Once (a0 : Tl1Cur) (a1 : Int) : Option (Bool × Tl1Cur) :=
  Option.bind (sl1Below a0 a1) fun r1 => some (eqB r1.1 0, r1.2)
theorem sl1Once_c {a0 : Tl1Cur} {a1 : Int} {r : Bool × Tl1Cur} (H : sl1Once a0 a1 = some r) : FnW Try.prog 51 (.var 81 [.d false (.l (a0.fb.map eU8)), .d false (.i .i64 a0.fi), .d false (.i .i64 a0.fh)]) [.v (.c (.p 200 0)), tI a1] (.var 81 [.d false (.l (r.2.fb.map eU8)), .d false (.i .i64 r.2.fi), .d false (.i .i64 r.2.fh)]) [.c (.d (.b r.1))] := by
  refine fn_inW Try.func51 rfl (by kernel_rfl) Try.ntmps51 rfl rfl rfl rfl rfl ?_
  refine wk ?_
  obtain ⟨r1, hr1, H⟩ := ob H
  refine awr_step rfl (cw (o := 200) (sl1Below_c hr1) rfl rfl rfl rfl rfl rfl trivial rfl rfl rfl rfl) ?_
  refine wk ?_
  cases H
  exact fin_retW (.cons (.tmp rfl) .nil) rfl rfl rfl rfl (by first | rfl | simp)
def sDeregister (a0 : List TRegistration) (a1 : TSubscriberID) (a2 : Int) : Option (List TRegistration) :=
  Option.bind (sFindRegistration a0 a1) fun r1 => Option.bind (bif ltB r1 0 then (some true) else (Option.bind (ix a0 r1) fun x3 => some (!eqB x3.Network a2))) fun (v2 : Bool) => bif v2 then (Option.bind (sl21Copy a0) fun r4 => some r4) else (bif slOk a0 0 r1 then (bif slOk a0 (WR (r1 + 1)) a0.length then (bif apOk 48 (([] : List TRegistration) ++ (a0.take (r1).toNat)).length then (bif apOk 48 ((([] : List TRegistration) ++ (a0.take (r1).toNat)) ++ (a0.drop (WR (r1 + 1)).toNat)).length then (some ((([] : List TRegistration) ++ (a0.take (r1).toNat)) ++ (a0.drop (WR (r1 + 1)).toNat))) else none) else none) else none) else none)
theorem sDeregister_c {a0 : List TRegistration} {a1 : TSubscriberID} {a2 : Int} {r : List TRegistration} (H : sDeregister a0 a1 a2 = some r) : Fn Try.prog 52 [aL (a0.map eTRegistration), .agg (eTSubscriberID a1), aI a2] [.c (.own 34 6 (r.map eTRegistration) r.length)] := by
  refine fn_in Try.func52 rfl (by kernel_rfl) Try.ntmps52 rfl rfl rfl ?_
  refine wkz ?_
  obtain ⟨r1, hr1, H⟩ := ob H
  refine awr_n rfl (ca rfl rfl rfl (sFindRegistration_c hr1) trivial rfl rfl rfl rfl) ?_
  refine wkz ?_
  obtain ⟨v2, Hj, H⟩ := ob H
  refine awr_join ⟨[(0, .v (.c (.d false (.l (a0.map eTRegistration))))), (7, tI r1), (21, tB v2)], [], 0⟩ ?_ ?_
  · have H := Hj
    refine wkz ?_
    refine g2 rfl rfl rfl (fun h => ?_) (fun h => ?_)
    · have H := bt h H
      refine wkz ?_
      cases H
      exact weak_of ⟨rfl, rfl, rfl, rfl, rfl, rfl, trivial⟩ trivial
    · have H := bf h H
      refine wkz ?_
      obtain ⟨x3, hx3, H⟩ := ob H
      refine awr_ng rfl rfl rfl rfl (xdT (enc := eTRegistration) hx3 (fun _ => rfl) rfl rfl rfl) ?_
      refine wkz ?_
      cases H
      exact weak_of ⟨rfl, rfl, rfl, rfl, rfl, rfl, trivial⟩ trivial
  refine wkz ?_
  refine awc_cond rfl (fun h => ?_) (fun h => ?_)
  · have H := bt h H
    refine wkz ?_
    obtain ⟨r4, hr4, H⟩ := ob H
    refine awr_n rfl (ca rfl rfl rfl (sl21Copy_c hr4) trivial rfl rfl rfl rfl) ?_
    refine wkz ?_
    cases H
    exact fin_ret (.cons (.tmp rfl) .nil) rfl rfl (by first | rfl | simp)
  · have H := bf h H
    refine wkz ?_
    refine awc_dz [0, 1, 2, 3, 5, 6, 7, 8, 4, 9, 10] Try.follows (by kernel_rfl) (by kernel_rfl) rfl ?_
    refine wkz ?_
    obtain ⟨h, H⟩ := rq H
    refine dz_n rfl (cdhT (enc := eTRegistration) h (fun _ => rfl) rfl rfl rfl) ?_
    refine wkz ?_
    obtain ⟨h, H⟩ := rq H
    refine dz_n rfl (cdlT (enc := eTRegistration) h (fun _ => rfl) rfl rfl rfl) ?_
    refine wkz ?_
    obtain ⟨h, H⟩ := rq H
    refine dz_w rfl (apxF (enc := eTRegistration) (ys := ([] : List TRegistration)) (zs := a0.take (r1).toNat) [0] h rfl (fun _ => rfl) (fun _ => rfl) (by first | rfl | simp) rfl .d rfl rfl rfl rfl rfl rfl) ?_
    refine wkz ?_
    obtain ⟨h, H⟩ := rq H
    refine dz_w rfl (apxF (enc := eTRegistration) (ys := (([] : List TRegistration) ++ (a0.take (r1).toNat))) (zs := a0.drop (WR (r1 + 1)).toNat) [1] h rfl (fun _ => rfl) (fun _ => rfl) (by first | rfl | simp) rfl .d rfl rfl rfl rfl rfl rfl) ?_
    refine wkz ?_
    refine dz_nilk (ds := [0, 1]) (by kernel_rfl) (by kernel_rfl) rfl ?_
    refine wkz ?_
    cases H
    exact fin_ret (.cons (.tmp rfl) .nil) rfl rfl (by first | rfl | simp)
def sl21Draw_L1  : (Int × List Int × Int × Int × List TRegistration) → Option (Step (Int × List Int × Int × Int × List TRegistration) (List Int × Int × Int × List TRegistration))
  | (v2, v3, v4, v5, v6) => bif ltB 0 v2 then (Option.bind (sl21One (⟨v3, v4, v5⟩ : Tl1Cur)) fun r21 => Option.bind (sRegister v6 r21.1) fun r22 => Option.bind (sl1Once r21.2 5) fun r23 => Option.bind (bif r23.1 then (Option.bind (sl4Who r23.2) fun r28 => Option.bind (sl1Below r28.2 3) fun r29 => Option.bind (sDeregister r22.1 r28.1 r29.1) fun r30 => some (r29.2.fb, r29.2.fi, r29.2.fh, r30)) else (some (r23.2.fb, r23.2.fi, r23.2.fh, r22.1))) fun ((v24, v25, v26, v27) : List Int × Int × Int × List TRegistration) => some (.next (WR (v2 - 1), v24, v25, v26, v27))) else (some (.done (v3, v4, v5, v6)))
def sl21Draw (a0 : Tl1Cur) : Option (List TRegistration × Tl1Cur) :=
  Option.bind (sl1Below a0 8) fun r1 => Option.bind (iter (sl21Draw_L1) FU (r1.1, r1.2.fb, r1.2.fi, r1.2.fh, ([] : List TRegistration))) fun ((v17, v18, v19, v20) : List Int × Int × Int × List TRegistration) => some (v20, (⟨v17, v18, v19⟩ : Tl1Cur))
theorem sl21Draw_c {a0 : Tl1Cur} {r : List TRegistration × Tl1Cur} (H : sl21Draw a0 = some r) : FnW Try.prog 30 (.var 81 [.d false (.l (a0.fb.map eU8)), .d false (.i .i64 a0.fi), .d false (.i .i64 a0.fh)]) [.v (.c (.p 200 0))] (.var 81 [.d false (.l (r.2.fb.map eU8)), .d false (.i .i64 r.2.fi), .d false (.i .i64 r.2.fh)]) [.c (.own 34 6 (r.1.map eTRegistration) r.1.length)] := by
  refine fn_inW Try.func30 rfl (by kernel_rfl) Try.ntmps30 rfl rfl rfl rfl rfl ?_
  refine wk ?_
  obtain ⟨r1, hr1, H⟩ := ob H
  refine awr_step rfl (cw (o := 200) (sl1Below_c hr1) rfl rfl rfl rfl rfl rfl trivial rfl rfl rfl rfl) ?_
  refine wk ?_
  obtain ⟨⟨v17, v18, v19, v20⟩, Hj, H⟩ := ob H
  refine awc_jblk ⟨[(3, .v (.c (.w 210 v20.length)))], [(200, .var 81 [.d false (.l (v17.map eU8)), .d false (.i .i64 v18), .d false (.i .i64 v19)]), (210, .row 34 6 (v20.map eTRegistration) true true)], 211⟩ ?_ ?_
  · refine wk ?_
    refine awc_iter (fun (q : Int × List Int × Int × Int × List TRegistration) => ⟨[(0, .v (.c (.p 200 0))), (3, .v (.c (.w 210 q.2.2.2.2.length))), (4, tI q.1)], [(200, .var 81 [.d false (.l (q.2.1.map eU8)), .d false (.i .i64 q.2.2.1), .d false (.i .i64 q.2.2.2.1)]), (210, .row 34 6 (q.2.2.2.2.map eTRegistration) true true)], 211⟩) Hj (weak_of ⟨rfl, rfl, wn rfl (by first | rfl | simp), rfl, rfl, rfl, trivial⟩ ⟨rfl, ⟨rfl, rfl⟩, rfl, ⟨rfl, rfl⟩, trivial⟩) ?_
    rintro ⟨v2, v3, v4, v5, v6⟩ o H
    try dsimp only
    refine wk ?_
    refine awc_cond rfl (fun h => ?_) (fun h => ?_)
    · have H := bt h H
      refine wk ?_
      obtain ⟨r21, hr21, H⟩ := ob H
      refine awr_step rfl (cw (o := 200) (sl21One_c hr21) rfl rfl rfl rfl rfl rfl trivial rfl rfl rfl rfl) ?_
      refine wk ?_
      obtain ⟨r22, hr22, H⟩ := ob H
      refine awr_n rfl (ca rfl rfl rfl (sRegister_c hr22) ⟨by first | rfl | exact lm _, trivial⟩ rfl rfl rfl rfl) ?_
      refine wk ?_
      obtain ⟨r23, hr23, H⟩ := ob H
      refine awr_step rfl (cw (o := 200) (sl1Once_c hr23) rfl rfl rfl rfl rfl rfl trivial rfl rfl rfl rfl) ?_
      refine wk ?_
      obtain ⟨⟨v24, v25, v26, v27⟩, Hj, H⟩ := ob H
      refine awc_join ⟨[(0, .v (.c (.p 200 0))), (3, .v (.c (.w 212 v27.length))), (4, tI v2)], [(200, .var 81 [.d false (.l (v24.map eU8)), .d false (.i .i64 v25), .d false (.i .i64 v26)]), (212, .row 34 6 (v27.map eTRegistration) true true)], 213⟩ ?_ ?_
      · have H := Hj
        refine wk ?_
        refine awc_cond rfl (fun h => ?_) (fun h => ?_)
        · have H := bt h H
          refine wk ?_
          obtain ⟨r28, hr28, H⟩ := ob H
          refine awr_step rfl (cw (o := 200) (sl4Who_c hr28) rfl rfl rfl rfl rfl rfl trivial rfl rfl rfl rfl) ?_
          refine wk ?_
          obtain ⟨r29, hr29, H⟩ := ob H
          refine awr_step rfl (cw (o := 200) (sl1Below_c hr29) rfl rfl rfl rfl rfl rfl trivial rfl rfl rfl rfl) ?_
          refine wk ?_
          obtain ⟨r30, hr30, H⟩ := ob H
          refine awr_n rfl (ca rfl rfl rfl (sDeregister_c hr30) ⟨by first | rfl | exact lm _, trivial⟩ rfl rfl rfl rfl) ?_
          refine wk ?_
          cases H
          exact weak_of ⟨rfl, rfl, wn rfl (by first | rfl | simp), rfl, rfl, rfl, trivial⟩ ⟨rfl, ⟨rfl, rfl⟩, rfl, ⟨rfl, rfl⟩, trivial⟩
        · have H := bf h H
          refine wk ?_
          cases H
          refine weak_trans (weak_up (nx' := 213) rfl) ?_
          refine weak_trans (weak_swp (p := 212) (q := 211) rfl rfl rfl rfl) ?_
          exact weak_of ⟨rfl, rfl, wn rfl (by first | rfl | simp), rfl, rfl, rfl, trivial⟩ ⟨rfl, ⟨rfl, rfl⟩, rfl, ⟨rfl, rfl⟩, trivial⟩
      refine wk ?_
      cases H
      refine iq_n ?_
      refine weak_trans (weak_swp (p := 210) (q := 212) rfl rfl rfl rfl) ?_
      exact weak_of ⟨rfl, rfl, wn rfl (by first | rfl | simp), rfl, rfl, rfl, trivial⟩ ⟨rfl, ⟨rfl, rfl⟩, rfl, ⟨rfl, rfl⟩, trivial⟩
    · have H := bf h H
      refine wk ?_
      cases H
      refine iq_e (fun hq => ?_)
      cases hq
      refine wk ?_
      exact weak_of ⟨wn rfl (by first | rfl | simp), rfl, trivial⟩ ⟨rfl, ⟨rfl, rfl⟩, rfl, ⟨rfl, rfl⟩, trivial⟩
  refine wk ?_
  cases H
  exact fin_retW (.cons (.tmp rfl) .nil) rfl rfl (by first | rfl | simp) rfl (by first | rfl | simp)
def sDrawReg (a0 : List Int) : Option (List TRegistration) :=
  Option.bind (sl1New a0) fun r1 => Option.bind (sl21Draw r1) fun r2 => some r2.1
theorem sDrawReg_c {a0 : List Int} {r : List TRegistration} (H : sDrawReg a0 = some r) : Fn Try.prog 7 [aL (a0.map eU8)] [.c (.own 34 6 (r.map eTRegistration) r.length)] := by
  refine fn_in Try.func7 rfl (by kernel_rfl) Try.ntmps7 rfl rfl rfl ?_
  refine wk ?_
  obtain ⟨r1, hr1, H⟩ := ob H
  refine awr_n rfl (cn (sl1New_c hr1) rfl rfl trivial rfl rfl rfl) ?_
  refine wk ?_
  obtain ⟨r2, hr2, H⟩ := ob H
  refine awr_step rfl (cw (o := 0) (sl21Draw_c hr2) rfl rfl rfl rfl rfl rfl trivial rfl rfl rfl rfl) ?_
  refine wk ?_
  cases H
  exact fin_ret (.cons (.tmp rfl) .nil) rfl rfl (by first | rfl | simp)
def sl20Plan_L1  : (Int × List Int × Int × Int × List Int) → Option (Step (Int × List Int × Int × Int × List Int) (List Int × Int × Int × List Int))
  | (v4, v5, v6, v7, v8) => bif ltB v4 4 then (Option.bind (sl1Once (⟨v5, v6, v7⟩ : Tl1Cur) 3) fun r15 => Option.bind (bif r15.1 then (bif apOk 8 (v8 ++ [v4]).length then (some (v8 ++ [v4])) else none) else (some v8)) fun (v16 : List Int) => some (.next (WR (v4 + 1), r15.2.fb, r15.2.fi, r15.2.fh, v16))) else (some (.done (v5, v6, v7, v8)))
def sl20Plan (a0 : Tl1Cur) : Option (TSubscription × Tl1Cur) :=
  Option.bind (sl1Below a0 9) fun r1 => Option.bind (sl1Below r1.2 4) fun r2 => Option.bind (sl1Below r2.2 20) fun r3 => Option.bind (iter (sl20Plan_L1) FU (0, r3.2.fb, r3.2.fi, r3.2.fh, ([] : List Int))) fun ((v11, v12, v13, v14) : List Int × Int × Int × List Int) => some ((⟨WR (1 + r1.1), WR (1 + r2.1), WR (1 + r3.1), v14⟩ : TSubscription), (⟨v11, v12, v13⟩ : Tl1Cur))
theorem sl20Plan_c {a0 : Tl1Cur} {r : TSubscription × Tl1Cur} (H : sl20Plan a0 = some r) : FnV Try.prog 40 [(200, .var 81 [.d false (.l (a0.fb.map eU8)), .d false (.i .i64 a0.fi), .d false (.i .i64 a0.fh)])] [.v (.c (.p 200 0))] [(200, .var 81 [.d false (.l (r.2.fb.map eU8)), .d false (.i .i64 r.2.fi), .d false (.i .i64 r.2.fh)])] (.v (.agg [.d false (.i .i64 r.1.RateLimit), .d false (.i .i64 r.1.BestClass), .d false (.i .i64 r.1.GrantSize), .wn 210 r.1.RoamingNetworks.length])) [(210, .rown 3 1 (r.1.RoamingNetworks.map eI) true)] := by
  refine fn_inV Try.func40 rfl (by kernel_rfl) Try.ntmps40 rfl rfl rfl ?_
  refine wk ?_
  obtain ⟨r1, hr1, H⟩ := ob H
  refine awr_step rfl (cw (o := 200) (sl1Below_c hr1) rfl rfl rfl rfl rfl rfl trivial rfl rfl rfl rfl) ?_
  refine wk ?_
  obtain ⟨r2, hr2, H⟩ := ob H
  refine awr_step rfl (cw (o := 200) (sl1Below_c hr2) rfl rfl rfl rfl rfl rfl trivial rfl rfl rfl rfl) ?_
  refine wk ?_
  obtain ⟨r3, hr3, H⟩ := ob H
  refine awr_step rfl (cw (o := 200) (sl1Below_c hr3) rfl rfl rfl rfl rfl rfl trivial rfl rfl rfl rfl) ?_
  refine wk ?_
  obtain ⟨⟨v11, v12, v13, v14⟩, Hj, H⟩ := ob H
  refine awc_jblk ⟨[(2, .v (.c (.p 210 0))), (3, .v (.c (.p 211 0)))], [(200, .var 81 [.d false (.l (v11.map eU8)), .d false (.i .i64 v12), .d false (.i .i64 v13)]), (210, .var 40 [.d false (.i .i64 0), .d false (.i .i64 0), .d false (.i .i64 0), .nil]), (211, .var 40 [.d false (.i .i64 (WR (1 + r1.1))), .d false (.i .i64 (WR (1 + r2.1))), .d false (.i .i64 (WR (1 + r3.1))), .wn 212 v14.length]), (212, .rown 3 1 (v14.map eI) true)], 213⟩ ?_ ?_
  · refine wk ?_
    refine awc_iter (fun (q : Int × List Int × Int × Int × List Int) => ⟨[(0, .v (.c (.p 200 0))), (2, .v (.c (.p 210 0))), (3, .v (.c (.p 211 0))), (4, tI q.1)], [(200, .var 81 [.d false (.l (q.2.1.map eU8)), .d false (.i .i64 q.2.2.1), .d false (.i .i64 q.2.2.2.1)]), (210, .var 40 [.d false (.i .i64 0), .d false (.i .i64 0), .d false (.i .i64 0), .nil]), (211, .var 40 [.d false (.i .i64 (WR (1 + r1.1))), .d false (.i .i64 (WR (1 + r2.1))), .d false (.i .i64 (WR (1 + r3.1))), .wn 212 q.2.2.2.2.length]), (212, .rown 3 1 (q.2.2.2.2.map eI) true)], 213⟩) Hj (by refine weak_trans (weak_nnV (o := 211) (j := 3) 3 1 true rfl rfl rfl rfl rfl) ?_; refine weak_trans (weak_wnB (o := 212) (n := ([] : List Int).length) rfl rfl (by repeat (first | exact trivial | refine ⟨by first | rfl | simp, ?_⟩)) (by repeat (first | exact trivial | refine ⟨by first | rfl | simp, ?_⟩))) ?_; exact weak_of ⟨rfl, rfl, rfl, rfl, rfl, rfl, rfl, rfl, trivial⟩ ⟨rfl, ⟨rfl, rfl⟩, rfl, ⟨rfl, rfl⟩, rfl, ⟨rfl, rfl⟩, rfl, ⟨rfl, rfl⟩, trivial⟩) ?_
    rintro ⟨v4, v5, v6, v7, v8⟩ o H
    try dsimp only
    refine wk ?_
    refine awc_cond rfl (fun h => ?_) (fun h => ?_)
    · have H := bt h H
      refine wk ?_
      obtain ⟨r15, hr15, H⟩ := ob H
      refine awr_step rfl (cw (o := 200) (sl1Once_c hr15) rfl rfl rfl rfl rfl rfl trivial rfl rfl rfl rfl) ?_
      refine wk ?_
      obtain ⟨v16, Hj, H⟩ := ob H
      refine awc_join ⟨[(0, .v (.c (.p 200 0))), (2, .v (.c (.p 210 0))), (3, .v (.c (.p 211 0))), (4, tI v4)], [(200, .var 81 [.d false (.l (r15.2.fb.map eU8)), .d false (.i .i64 r15.2.fi), .d false (.i .i64 r15.2.fh)]), (210, .var 40 [.d false (.i .i64 0), .d false (.i .i64 0), .d false (.i .i64 0), .nil]), (211, .var 40 [.d false (.i .i64 (WR (1 + r1.1))), .d false (.i .i64 (WR (1 + r2.1))), .d false (.i .i64 (WR (1 + r3.1))), .wn 212 v16.length]), (212, .rown 3 1 (v16.map eI) true)], 213⟩ ?_ ?_
      · have H := Hj
        refine wk ?_
        refine awc_cond rfl (fun h => ?_) (fun h => ?_)
        · have H := bt h H
          refine wk ?_
          obtain ⟨h, H⟩ := rq H
          refine awr_step rfl (apTn (enc := eI) (ys := v8) (zs := [v4]) h (by first | exact List.cons_ne_nil _ _ | simp) rfl (fun _ => rfl) (by first | rfl | simp) (.w rfl (by first | rfl | exact lm _ | simp)) rfl rfl rfl rfl rfl rfl rfl rfl rfl rfl) ?_
          refine wk ?_
          cases H
          refine weak_trans (weak_toN 212 rfl rfl rfl) ?_
          exact weak_of ⟨rfl, rfl, rfl, rfl, rfl, rfl, rfl, rfl, trivial⟩ ⟨rfl, ⟨rfl, rfl⟩, rfl, ⟨rfl, rfl⟩, rfl, ⟨rfl, rfl⟩, rfl, ⟨rfl, rfl⟩, trivial⟩
        · have H := bf h H
          refine wk ?_
          cases H
          exact weak_of ⟨rfl, rfl, rfl, rfl, rfl, rfl, rfl, rfl, trivial⟩ ⟨rfl, ⟨rfl, rfl⟩, rfl, ⟨rfl, rfl⟩, rfl, ⟨rfl, rfl⟩, rfl, ⟨rfl, rfl⟩, trivial⟩
      refine wk ?_
      cases H
      refine iq_n ?_
      exact weak_of ⟨rfl, rfl, rfl, rfl, rfl, rfl, rfl, rfl, trivial⟩ ⟨rfl, ⟨rfl, rfl⟩, rfl, ⟨rfl, rfl⟩, rfl, ⟨rfl, rfl⟩, rfl, ⟨rfl, rfl⟩, trivial⟩
    · have H := bf h H
      refine wk ?_
      cases H
      refine iq_e (fun hq => ?_)
      cases hq
      refine wk ?_
      exact weak_of ⟨rfl, rfl, rfl, rfl, trivial⟩ ⟨rfl, ⟨rfl, rfl⟩, rfl, ⟨rfl, rfl⟩, rfl, ⟨rfl, rfl⟩, rfl, ⟨rfl, rfl⟩, trivial⟩
  refine wk ?_
  cases H
  refine clo_v (weak_swp (p := 212) (q := 210) rfl rfl rfl rfl) ?_
  exact fin_retV (.cons (.cell rfl rfl rfl) .nil) rfl (by first | rfl | simp) ⟨rfl, trivial⟩ ⟨rfl, trivial⟩
def sl1Int (a0 : Tl1Cur) (a1 : List Int) : Option (Int × Tl1Cur) :=
  Option.bind (sl1Below a0 ((a1.length : Nat) : Int)) fun r1 => Option.bind (ix a1 r1.1) fun x2 => some (x2, r1.2)
theorem sl1Int_c {a0 : Tl1Cur} {a1 : List Int} {r : Int × Tl1Cur} (H : sl1Int a0 a1 = some r) : FnW Try.prog 53 (.var 81 [.d false (.l (a0.fb.map eU8)), .d false (.i .i64 a0.fi), .d false (.i .i64 a0.fh)]) [.v (.c (.p 200 0)), .v (.c (.d false (.l (a1.map eI))))] (.var 81 [.d false (.l (r.2.fb.map eU8)), .d false (.i .i64 r.2.fi), .d false (.i .i64 r.2.fh)]) [.c (.d (.i .i64 r.1))] := by
  refine fn_inW Try.func53 rfl (by kernel_rfl) Try.ntmps53 rfl rfl rfl rfl rfl ?_
  refine wk ?_
  obtain ⟨r1, hr1, H⟩ := ob H
  refine awr_step rfl (cw (o := 200) (sl1Below_c hr1) rfl rfl rfl rfl rfl rfl trivial rfl rfl rfl rfl) ?_
  refine wk ?_
  obtain ⟨x2, hx2, H⟩ := ob H
  refine awr_n rfl (xdT (enc := eI) hx2 (fun _ => rfl) rfl rfl rfl) ?_
  refine wk ?_
  cases H
  exact fin_retW (.cons (.tmp rfl) .nil) rfl rfl rfl rfl (by first | rfl | simp)
def sl20Any (a0 : Tl1Cur) : Option (TSubscription × Tl1Cur) :=
  Option.bind (sl20Plan a0) fun r1 => Option.bind (sl1Below r1.2 8) fun r2 => Option.bind (bif eqB r2.1 0 then (Option.bind (sl1Int r2.2 [0, 1000, 1001]) fun r10 => some (r10.2.fb, r10.2.fi, r10.2.fh, r10.1, r1.1.BestClass, r1.1.GrantSize, r1.1.RoamingNetworks)) else (Option.bind (bif eqB r2.1 1 then (Option.bind (sl1Int r2.2 [0, 100000, 100001]) fun r17 => some (r17.2.fb, r17.2.fi, r17.2.fh, r1.1.BestClass, r17.1, r1.1.RoamingNetworks)) else (Option.bind (bif eqB r2.1 2 then (Option.bind (sl1Below r2.2 6) fun r23 => bif apOk 8 (r1.1.RoamingNetworks ++ [WR (r23.1 - 1)]).length then (some (r23.2.fb, r23.2.fi, r23.2.fh, r1.1.BestClass, (r1.1.RoamingNetworks ++ [WR (r23.1 - 1)]))) else none) else (Option.bind (bif eqB r2.1 3 then (Option.bind (sl1Int r2.2 [0, 4, 5]) fun r28 => some (r28.2.fb, r28.2.fi, r28.2.fh, r28.1)) else (some (r2.2.fb, r2.2.fi, r2.2.fh, r1.1.BestClass))) fun ((v24, v25, v26, v27) : List Int × Int × Int × Int) => some (v24, v25, v26, v27, r1.1.RoamingNetworks))) fun ((v18, v19, v20, v21, v22) : List Int × Int × Int × Int × List Int) => some (v18, v19, v20, v21, r1.1.GrantSize, v22))) fun ((v11, v12, v13, v14, v15, v16) : List Int × Int × Int × Int × Int × List Int) => some (v11, v12, v13, r1.1.RateLimit, v14, v15, v16))) fun ((v3, v4, v5, v6, v7, v8, v9) : List Int × Int × Int × Int × Int × Int × List Int) => some ((⟨v6, v7, v8, v9⟩ : TSubscription), (⟨v3, v4, v5⟩ : Tl1Cur))
theorem sl20Any_c {a0 : Tl1Cur} {r : TSubscription × Tl1Cur} (H : sl20Any a0 = some r) : FnV Try.prog 31 [(200, .var 81 [.d false (.l (a0.fb.map eU8)), .d false (.i .i64 a0.fi), .d false (.i .i64 a0.fh)])] [.v (.c (.p 200 0))] [(200, .var 81 [.d false (.l (r.2.fb.map eU8)), .d false (.i .i64 r.2.fi), .d false (.i .i64 r.2.fh)])] (.v (.agg [.d false (.i .i64 r.1.RateLimit), .d false (.i .i64 r.1.BestClass), .d false (.i .i64 r.1.GrantSize), .wn 210 r.1.RoamingNetworks.length])) [(210, .rown 3 1 (r.1.RoamingNetworks.map eI) true)] := by
  refine fn_inV Try.func31 rfl (by kernel_rfl) Try.ntmps31 rfl rfl rfl ?_
  refine wkz ?_
  obtain ⟨r1, hr1, H⟩ := ob H
  refine awr_step rfl (cwv [(200, 200)] [(210, 211)] 212 (sl20Plan_c hr1) rfl rfl rfl rfl rfl rfl rfl rfl rfl rfl rfl rfl rfl rfl) ?_
  refine wkz ?_
  obtain ⟨r2, hr2, H⟩ := ob H
  refine awr_step rfl (cw (o := 200) (sl1Below_c hr2) rfl rfl rfl rfl rfl rfl trivial rfl rfl rfl rfl) ?_
  refine wkz ?_
  obtain ⟨⟨v3, v4, v5, v6, v7, v8, v9⟩, Hj, H⟩ := ob H
  refine awc_join ⟨[(2, .v (.c (.p 210 0))), (3, .v (.c (.p 212 0)))], [(200, .var 81 [.d false (.l (v3.map eU8)), .d false (.i .i64 v4), .d false (.i .i64 v5)]), (210, .var 40 [.d false (.i .i64 0), .d false (.i .i64 0), .d false (.i .i64 0), .nil]), (211, .rown 3 1 (v9.map eI) true), (212, .var 40 [.d false (.i .i64 v6), .d false (.i .i64 v7), .d false (.i .i64 v8), .wn 211 v9.length])], 213⟩ ?_ ?_
  · have H := Hj
    refine wkz ?_
    refine awc_cond rfl (fun h => ?_) (fun h => ?_)
    · have H := bt h H
      refine wkz ?_
      obtain ⟨r10, hr10, H⟩ := ob H
      refine awr_weak (weak_frz (o := 213) rfl rfl) ?_
      refine awr_weak (weak_cast (k := 11) rfl rfl ⟨by first | rfl | simp, trivial⟩) ?_
      refine awr_step rfl (cw (o := 200) (sl1Int_c hr10) rfl rfl rfl rfl rfl rfl trivial rfl rfl rfl rfl) ?_
      refine wkz ?_
      cases H
      exact weak_of ⟨rfl, rfl, rfl, rfl, trivial⟩ ⟨rfl, ⟨rfl, rfl⟩, rfl, ⟨rfl, rfl⟩, rfl, ⟨rfl, rfl⟩, rfl, ⟨rfl, rfl⟩, trivial⟩
    · have H := bf h H
      refine wkz ?_
      obtain ⟨⟨v11, v12, v13, v14, v15, v16⟩, Hj, H⟩ := ob H
      refine awc_join ⟨[(2, .v (.c (.p 210 0))), (3, .v (.c (.p 212 0)))], [(200, .var 81 [.d false (.l (v11.map eU8)), .d false (.i .i64 v12), .d false (.i .i64 v13)]), (210, .var 40 [.d false (.i .i64 0), .d false (.i .i64 0), .d false (.i .i64 0), .nil]), (211, .rown 3 1 (v16.map eI) true), (212, .var 40 [.d false (.i .i64 r1.1.RateLimit), .d false (.i .i64 v14), .d false (.i .i64 v15), .wn 211 v16.length])], 213⟩ ?_ ?_
      · have H := Hj
        refine wkz ?_
        refine awc_cond rfl (fun h => ?_) (fun h => ?_)
        · have H := bt h H
          refine wkz ?_
          obtain ⟨r17, hr17, H⟩ := ob H
          refine awr_weak (weak_frz (o := 213) rfl rfl) ?_
          refine awr_weak (weak_cast (k := 17) rfl rfl ⟨by first | rfl | simp, trivial⟩) ?_
          refine awr_step rfl (cw (o := 200) (sl1Int_c hr17) rfl rfl rfl rfl rfl rfl trivial rfl rfl rfl rfl) ?_
          refine wkz ?_
          cases H
          exact weak_of ⟨rfl, rfl, rfl, rfl, trivial⟩ ⟨rfl, ⟨rfl, rfl⟩, rfl, ⟨rfl, rfl⟩, rfl, ⟨rfl, rfl⟩, rfl, ⟨rfl, rfl⟩, trivial⟩
        · have H := bf h H
          refine wkz ?_
          obtain ⟨⟨v18, v19, v20, v21, v22⟩, Hj, H⟩ := ob H
          refine awc_join ⟨[(2, .v (.c (.p 210 0))), (3, .v (.c (.p 212 0)))], [(200, .var 81 [.d false (.l (v18.map eU8)), .d false (.i .i64 v19), .d false (.i .i64 v20)]), (210, .var 40 [.d false (.i .i64 0), .d false (.i .i64 0), .d false (.i .i64 0), .nil]), (211, .rown 3 1 (v22.map eI) true), (212, .var 40 [.d false (.i .i64 r1.1.RateLimit), .d false (.i .i64 v21), .d false (.i .i64 r1.1.GrantSize), .wn 211 v22.length])], 213⟩ ?_ ?_
          · have H := Hj
            refine wkz ?_
            refine awc_cond rfl (fun h => ?_) (fun h => ?_)
            · have H := bt h H
              refine wkz ?_
              refine awc_dz [0, 1, 2, 3, 4, 5, 6, 7, 8] Try.follows (by kernel_rfl) (by kernel_rfl) rfl ?_
              refine wkz ?_
              obtain ⟨r23, hr23, H⟩ := ob H
              refine dz_w rfl (cwx (o := 200) (sl1Below_c hr23) rfl rfl rfl rfl rfl rfl trivial rfl rfl rfl rfl) ?_
              refine wkz ?_
              obtain ⟨h, H⟩ := rq H
              refine dz_bar (by kernel_rfl) rfl (by kernel_rfl) weak_id (bo_n rfl (apTn (enc := eI) (ys := r1.1.RoamingNetworks) (zs := [WR (r23.1 - 1)]) h (by first | exact List.cons_ne_nil _ _ | simp) rfl (fun _ => rfl) (by first | rfl | simp) (.w rfl (by first | rfl | exact lm _ | simp)) rfl rfl rfl rfl rfl rfl rfl rfl rfl rfl)) weak_id rfl ?_
              refine wkz ?_
              refine dz_w rfl (spx 100026 rfl rfl rfl rfl rfl rfl rfl rfl) ?_
              refine wkz ?_
              cases H
              refine weak_trans (weak_toN 211 rfl rfl rfl) ?_
              exact weak_of ⟨rfl, rfl, rfl, rfl, trivial⟩ ⟨rfl, ⟨rfl, rfl⟩, rfl, ⟨rfl, rfl⟩, rfl, ⟨rfl, rfl⟩, rfl, ⟨rfl, rfl⟩, trivial⟩
            · have H := bf h H
              refine wkz ?_
              obtain ⟨⟨v24, v25, v26, v27⟩, Hj, H⟩ := ob H
              refine awc_join ⟨[(2, .v (.c (.p 210 0))), (3, .v (.c (.p 212 0)))], [(200, .var 81 [.d false (.l (v24.map eU8)), .d false (.i .i64 v25), .d false (.i .i64 v26)]), (210, .var 40 [.d false (.i .i64 0), .d false (.i .i64 0), .d false (.i .i64 0), .nil]), (211, .rown 3 1 (r1.1.RoamingNetworks.map eI) true), (212, .var 40 [.d false (.i .i64 r1.1.RateLimit), .d false (.i .i64 v27), .d false (.i .i64 r1.1.GrantSize), .wn 211 r1.1.RoamingNetworks.length])], 213⟩ ?_ ?_
              · have H := Hj
                refine wkz ?_
                refine awc_cond rfl (fun h => ?_) (fun h => ?_)
                · have H := bt h H
                  refine wkz ?_
                  obtain ⟨r28, hr28, H⟩ := ob H
                  refine awr_weak (weak_frz (o := 213) rfl rfl) ?_
                  refine awr_weak (weak_cast (k := 33) rfl rfl ⟨by first | rfl | simp, trivial⟩) ?_
                  refine awr_step rfl (cw (o := 200) (sl1Int_c hr28) rfl rfl rfl rfl rfl rfl trivial rfl rfl rfl rfl) ?_
                  refine wkz ?_
                  cases H
                  exact weak_of ⟨rfl, rfl, rfl, rfl, trivial⟩ ⟨rfl, ⟨rfl, rfl⟩, rfl, ⟨rfl, rfl⟩, rfl, ⟨rfl, rfl⟩, rfl, ⟨rfl, rfl⟩, trivial⟩
                · have H := bf h H
                  refine wkz ?_
                  cases H
                  exact weak_of ⟨rfl, rfl, rfl, rfl, trivial⟩ ⟨rfl, ⟨rfl, rfl⟩, rfl, ⟨rfl, rfl⟩, rfl, ⟨rfl, rfl⟩, rfl, ⟨rfl, rfl⟩, trivial⟩
              refine wkz ?_
              cases H
              exact weak_of ⟨rfl, rfl, rfl, rfl, trivial⟩ ⟨rfl, ⟨rfl, rfl⟩, rfl, ⟨rfl, rfl⟩, rfl, ⟨rfl, rfl⟩, rfl, ⟨rfl, rfl⟩, trivial⟩
          refine wkz ?_
          cases H
          exact weak_of ⟨rfl, rfl, rfl, rfl, trivial⟩ ⟨rfl, ⟨rfl, rfl⟩, rfl, ⟨rfl, rfl⟩, rfl, ⟨rfl, rfl⟩, rfl, ⟨rfl, rfl⟩, trivial⟩
      refine wkz ?_
      cases H
      exact weak_of ⟨rfl, rfl, rfl, rfl, trivial⟩ ⟨rfl, ⟨rfl, rfl⟩, rfl, ⟨rfl, rfl⟩, rfl, ⟨rfl, rfl⟩, rfl, ⟨rfl, rfl⟩, trivial⟩
  refine wkz ?_
  cases H
  refine clo_v (weak_swp (p := 211) (q := 210) rfl rfl rfl rfl) ?_
  exact fin_retV (.cons (.cell rfl rfl rfl) .nil) rfl (by first | rfl | simp) ⟨rfl, trivial⟩ ⟨rfl, trivial⟩
def sl19Deal (a0 : Tl1Cur) : Option (TRoamingAgreement × Tl1Cur) :=
  Option.bind (sl1Below a0 3) fun r1 => Option.bind (sl1Below r1.2 2) fun r2 => Option.bind (sl1Below r2.2 5) fun r3 => Option.bind (sl1Int r3.2 [0, 20, 100, 1000000]) fun r4 => some ((⟨r1.1, Int.tmod (WR ((WR (r1.1 + 1)) + r2.1)) 3, r3.1, r4.1⟩ : TRoamingAgreement), r4.2)
theorem sl19Deal_c {a0 : Tl1Cur} {r : TRoamingAgreement × Tl1Cur} (H : sl19Deal a0 = some r) : FnW Try.prog 54 (.var 81 [.d false (.l (a0.fb.map eU8)), .d false (.i .i64 a0.fi), .d false (.i .i64 a0.fh)]) [.v (.c (.p 200 0))] (.var 81 [.d false (.l (r.2.fb.map eU8)), .d false (.i .i64 r.2.fi), .d false (.i .i64 r.2.fh)]) [.agg [.d (.i .i64 r.1.Home), .d (.i .i64 r.1.Visited), .d (.i .i64 r.1.Price), .d (.i .i64 r.1.Cap)]] := by
  refine fn_inW Try.func54 rfl (by kernel_rfl) Try.ntmps54 rfl rfl rfl rfl rfl ?_
  refine wk ?_
  obtain ⟨r1, hr1, H⟩ := ob H
  refine awr_step rfl (cw (o := 200) (sl1Below_c hr1) rfl rfl rfl rfl rfl rfl trivial rfl rfl rfl rfl) ?_
  refine wk ?_
  obtain ⟨r2, hr2, H⟩ := ob H
  refine awr_step rfl (cw (o := 200) (sl1Below_c hr2) rfl rfl rfl rfl rfl rfl trivial rfl rfl rfl rfl) ?_
  refine wk ?_
  refine awr_n rfl (ir rfl rfl rfl (by decide)) ?_
  refine wk ?_
  obtain ⟨r3, hr3, H⟩ := ob H
  refine awr_step rfl (cw (o := 200) (sl1Below_c hr3) rfl rfl rfl rfl rfl rfl trivial rfl rfl rfl rfl) ?_
  refine wk ?_
  obtain ⟨r4, hr4, H⟩ := ob H
  refine awr_weak (weak_frz (o := 211) rfl rfl) ?_
  refine awr_weak (weak_cast (k := 16) rfl rfl ⟨by first | rfl | simp, trivial⟩) ?_
  refine awr_step rfl (cw (o := 200) (sl1Int_c hr4) rfl rfl rfl rfl rfl rfl trivial rfl rfl rfl rfl) ?_
  refine wk ?_
  cases H
  exact fin_retW (.cons (.cell rfl rfl rfl) .nil) rfl rfl rfl rfl (by first | rfl | simp)
def sl19Any (a0 : Tl1Cur) : Option (TRoamingAgreement × Tl1Cur) :=
  Option.bind (sl19Deal a0) fun r1 => Option.bind (sl1Below r1.2 8) fun r2 => Option.bind (bif eqB r2.1 0 then (Option.bind (sl1Int r2.2 [r1.1.Home, -1, 4]) fun r9 => some (r9.2.fb, r9.2.fi, r9.2.fh, r9.1, r1.1.Price, r1.1.Cap)) else (Option.bind (bif eqB r2.1 1 then (Option.bind (sl1Int r2.2 [-1, 1000, 1001]) fun r15 => some (r15.2.fb, r15.2.fi, r15.2.fh, r15.1, r1.1.Cap)) else (Option.bind (bif eqB r2.1 2 then (Option.bind (sl1Int r2.2 [-1, 1000000000000, 1000000000001]) fun r20 => some (r20.2.fb, r20.2.fi, r20.2.fh, r20.1)) else (some (r2.2.fb, r2.2.fi, r2.2.fh, r1.1.Cap))) fun ((v16, v17, v18, v19) : List Int × Int × Int × Int) => some (v16, v17, v18, r1.1.Price, v19))) fun ((v10, v11, v12, v13, v14) : List Int × Int × Int × Int × Int) => some (v10, v11, v12, r1.1.Visited, v13, v14))) fun ((v3, v4, v5, v6, v7, v8) : List Int × Int × Int × Int × Int × Int) => some ((⟨r1.1.Home, v6, v7, v8⟩ : TRoamingAgreement), (⟨v3, v4, v5⟩ : Tl1Cur))
theorem sl19Any_c {a0 : Tl1Cur} {r : TRoamingAgreement × Tl1Cur} (H : sl19Any a0 = some r) : FnW Try.prog 55 (.var 81 [.d false (.l (a0.fb.map eU8)), .d false (.i .i64 a0.fi), .d false (.i .i64 a0.fh)]) [.v (.c (.p 200 0))] (.var 81 [.d false (.l (r.2.fb.map eU8)), .d false (.i .i64 r.2.fi), .d false (.i .i64 r.2.fh)]) [.agg [.d (.i .i64 r.1.Home), .d (.i .i64 r.1.Visited), .d (.i .i64 r.1.Price), .d (.i .i64 r.1.Cap)]] := by
  refine fn_inW Try.func55 rfl (by kernel_rfl) Try.ntmps55 rfl rfl rfl rfl rfl ?_
  refine wk ?_
  obtain ⟨r1, hr1, H⟩ := ob H
  refine awr_step rfl (cw (o := 200) (sl19Deal_c hr1) rfl rfl rfl rfl rfl rfl trivial rfl rfl rfl rfl) ?_
  refine wk ?_
  obtain ⟨r2, hr2, H⟩ := ob H
  refine awr_step rfl (cw (o := 200) (sl1Below_c hr2) rfl rfl rfl rfl rfl rfl trivial rfl rfl rfl rfl) ?_
  refine wk ?_
  obtain ⟨⟨v3, v4, v5, v6, v7, v8⟩, Hj, H⟩ := ob H
  refine awc_join ⟨[(2, .v (.c (.p 210 0))), (3, .v (.c (.p 211 0)))], [(200, .var 81 [.d false (.l (v3.map eU8)), .d false (.i .i64 v4), .d false (.i .i64 v5)]), (210, .var 52 [.d false (.i .i64 0), .d false (.i .i64 0), .d false (.i .i64 0), .d false (.i .i64 0)]), (211, .var 52 [.d false (.i .i64 r1.1.Home), .d false (.i .i64 v6), .d false (.i .i64 v7), .d false (.i .i64 v8)])], 212⟩ ?_ ?_
  · have H := Hj
    refine wk ?_
    refine awc_cond rfl (fun h => ?_) (fun h => ?_)
    · have H := bt h H
      refine wk ?_
      obtain ⟨r9, hr9, H⟩ := ob H
      refine awr_weak (weak_frz (o := 212) rfl rfl) ?_
      refine awr_weak (weak_cast (k := 13) rfl rfl ⟨by first | rfl | simp, trivial⟩) ?_
      refine awr_step rfl (cw (o := 200) (sl1Int_c hr9) rfl rfl rfl rfl rfl rfl trivial rfl rfl rfl rfl) ?_
      refine wk ?_
      cases H
      exact weak_of ⟨rfl, rfl, rfl, rfl, trivial⟩ ⟨rfl, ⟨rfl, rfl⟩, rfl, ⟨rfl, rfl⟩, rfl, ⟨rfl, rfl⟩, trivial⟩
    · have H := bf h H
      refine wk ?_
      obtain ⟨⟨v10, v11, v12, v13, v14⟩, Hj, H⟩ := ob H
      refine awc_join ⟨[(2, .v (.c (.p 210 0))), (3, .v (.c (.p 211 0)))], [(200, .var 81 [.d false (.l (v10.map eU8)), .d false (.i .i64 v11), .d false (.i .i64 v12)]), (210, .var 52 [.d false (.i .i64 0), .d false (.i .i64 0), .d false (.i .i64 0), .d false (.i .i64 0)]), (211, .var 52 [.d false (.i .i64 r1.1.Home), .d false (.i .i64 r1.1.Visited), .d false (.i .i64 v13), .d false (.i .i64 v14)])], 212⟩ ?_ ?_
      · have H := Hj
        refine wk ?_
        refine awc_cond rfl (fun h => ?_) (fun h => ?_)
        · have H := bt h H
          refine wk ?_
          obtain ⟨r15, hr15, H⟩ := ob H
          refine awr_weak (weak_frz (o := 212) rfl rfl) ?_
          refine awr_weak (weak_cast (k := 19) rfl rfl ⟨by first | rfl | simp, trivial⟩) ?_
          refine awr_step rfl (cw (o := 200) (sl1Int_c hr15) rfl rfl rfl rfl rfl rfl trivial rfl rfl rfl rfl) ?_
          refine wk ?_
          cases H
          exact weak_of ⟨rfl, rfl, rfl, rfl, trivial⟩ ⟨rfl, ⟨rfl, rfl⟩, rfl, ⟨rfl, rfl⟩, rfl, ⟨rfl, rfl⟩, trivial⟩
        · have H := bf h H
          refine wk ?_
          obtain ⟨⟨v16, v17, v18, v19⟩, Hj, H⟩ := ob H
          refine awc_join ⟨[(2, .v (.c (.p 210 0))), (3, .v (.c (.p 211 0)))], [(200, .var 81 [.d false (.l (v16.map eU8)), .d false (.i .i64 v17), .d false (.i .i64 v18)]), (210, .var 52 [.d false (.i .i64 0), .d false (.i .i64 0), .d false (.i .i64 0), .d false (.i .i64 0)]), (211, .var 52 [.d false (.i .i64 r1.1.Home), .d false (.i .i64 r1.1.Visited), .d false (.i .i64 r1.1.Price), .d false (.i .i64 v19)])], 212⟩ ?_ ?_
          · have H := Hj
            refine wk ?_
            refine awc_cond rfl (fun h => ?_) (fun h => ?_)
            · have H := bt h H
              refine wk ?_
              obtain ⟨r20, hr20, H⟩ := ob H
              refine awr_weak (weak_frz (o := 212) rfl rfl) ?_
              refine awr_weak (weak_cast (k := 25) rfl rfl ⟨by first | rfl | simp, trivial⟩) ?_
              refine awr_step rfl (cw (o := 200) (sl1Int_c hr20) rfl rfl rfl rfl rfl rfl trivial rfl rfl rfl rfl) ?_
              refine wk ?_
              cases H
              exact weak_of ⟨rfl, rfl, rfl, rfl, trivial⟩ ⟨rfl, ⟨rfl, rfl⟩, rfl, ⟨rfl, rfl⟩, rfl, ⟨rfl, rfl⟩, trivial⟩
            · have H := bf h H
              refine wk ?_
              cases H
              exact weak_of ⟨rfl, rfl, rfl, rfl, trivial⟩ ⟨rfl, ⟨rfl, rfl⟩, rfl, ⟨rfl, rfl⟩, rfl, ⟨rfl, rfl⟩, trivial⟩
          refine wk ?_
          cases H
          exact weak_of ⟨rfl, rfl, rfl, rfl, trivial⟩ ⟨rfl, ⟨rfl, rfl⟩, rfl, ⟨rfl, rfl⟩, rfl, ⟨rfl, rfl⟩, trivial⟩
      refine wk ?_
      cases H
      exact weak_of ⟨rfl, rfl, rfl, rfl, trivial⟩ ⟨rfl, ⟨rfl, rfl⟩, rfl, ⟨rfl, rfl⟩, rfl, ⟨rfl, rfl⟩, trivial⟩
  refine wk ?_
  cases H
  exact fin_retW (.cons (.cell rfl rfl rfl) .nil) rfl rfl rfl rfl (by first | rfl | simp)
def sl37Agreements_L1  : (Int × List Int × Int × Int × List TRoamingAgreement) → Option (Step (Int × List Int × Int × Int × List TRoamingAgreement) (List Int × Int × Int × List TRoamingAgreement))
  | (v2, v3, v4, v5, v6) => bif ltB 0 v2 then (Option.bind (sl19Deal (⟨v3, v4, v5⟩ : Tl1Cur)) fun r12 => bif apOk 32 (v6 ++ [r12.1]).length then (some (.next (WR (v2 - 1), r12.2.fb, r12.2.fi, r12.2.fh, (v6 ++ [r12.1])))) else none) else (some (.done (v3, v4, v5, v6)))
def sl37Agreements (a0 : Tl1Cur) : Option (List TRoamingAgreement × Tl1Cur) :=
  Option.bind (sl1Below a0 6) fun r1 => Option.bind (iter (sl37Agreements_L1) FU (r1.1, r1.2.fb, r1.2.fi, r1.2.fh, ([] : List TRoamingAgreement))) fun ((v8, v9, v10, v11) : List Int × Int × Int × List TRoamingAgreement) => Option.bind (sl1Once (⟨v8, v9, v10⟩ : Tl1Cur) 6) fun r13 => Option.bind (bif r13.1 then (Option.bind (sl19Any r13.2) fun r18 => bif apOk 32 ([r18.1] ++ v11).length then (some (r18.2.fb, r18.2.fi, r18.2.fh, ([r18.1] ++ v11))) else none) else (some (r13.2.fb, r13.2.fi, r13.2.fh, v11))) fun ((v14, v15, v16, v17) : List Int × Int × Int × List TRoamingAgreement) => some (v17, (⟨v14, v15, v16⟩ : Tl1Cur))
theorem sl37Agreements_c {a0 : Tl1Cur} {r : List TRoamingAgreement × Tl1Cur} (H : sl37Agreements a0 = some r) : FnW Try.prog 32 (.var 81 [.d false (.l (a0.fb.map eU8)), .d false (.i .i64 a0.fi), .d false (.i .i64 a0.fh)]) [.v (.c (.p 200 0))] (.var 81 [.d false (.l (r.2.fb.map eU8)), .d false (.i .i64 r.2.fi), .d false (.i .i64 r.2.fh)]) [.c (.own 52 4 (r.1.map eTRoamingAgreement) r.1.length)] := by
  refine fn_inW Try.func32 rfl (by kernel_rfl) Try.ntmps32 rfl rfl rfl rfl rfl ?_
  refine wk ?_
  obtain ⟨r1, hr1, H⟩ := ob H
  refine awr_step rfl (cw (o := 200) (sl1Below_c hr1) rfl rfl rfl rfl rfl rfl trivial rfl rfl rfl rfl) ?_
  refine wk ?_
  obtain ⟨⟨v8, v9, v10, v11⟩, Hj, H⟩ := ob H
  refine awc_jblk ⟨[(0, .v (.c (.p 200 0))), (3, .v (.c (.w 210 v11.length)))], [(200, .var 81 [.d false (.l (v8.map eU8)), .d false (.i .i64 v9), .d false (.i .i64 v10)]), (210, .row 52 4 (v11.map eTRoamingAgreement) true true)], 211⟩ ?_ ?_
  · refine wk ?_
    refine awc_iter (fun (q : Int × List Int × Int × Int × List TRoamingAgreement) => ⟨[(0, .v (.c (.p 200 0))), (3, .v (.c (.w 210 q.2.2.2.2.length))), (4, tI q.1)], [(200, .var 81 [.d false (.l (q.2.1.map eU8)), .d false (.i .i64 q.2.2.1), .d false (.i .i64 q.2.2.2.1)]), (210, .row 52 4 (q.2.2.2.2.map eTRoamingAgreement) true true)], 211⟩) Hj (weak_of ⟨rfl, rfl, wn rfl (by first | rfl | simp), rfl, rfl, rfl, trivial⟩ ⟨rfl, ⟨rfl, rfl⟩, rfl, ⟨rfl, rfl⟩, trivial⟩) ?_
    rintro ⟨v2, v3, v4, v5, v6⟩ o H
    try dsimp only
    refine wk ?_
    refine awc_cond rfl (fun h => ?_) (fun h => ?_)
    · have H := bt h H
      refine wk ?_
      obtain ⟨r12, hr12, H⟩ := ob H
      refine awr_step rfl (cw (o := 200) (sl19Deal_c hr12) rfl rfl rfl rfl rfl rfl trivial rfl rfl rfl rfl) ?_
      refine wk ?_
      obtain ⟨h, H⟩ := rq H
      refine awr_step rfl (apT (enc := eTRoamingAgreement) (ys := v6) (zs := [r12.1]) h rfl (fun _ => rfl) (by first | rfl | simp) (.w rfl (by first | rfl | exact lm _ | simp)) rfl rfl rfl rfl rfl rfl rfl rfl) ?_
      refine wk ?_
      cases H
      refine iq_n ?_
      exact weak_of ⟨rfl, rfl, wn rfl (by first | rfl | simp), rfl, rfl, rfl, trivial⟩ ⟨rfl, ⟨rfl, rfl⟩, rfl, ⟨rfl, rfl⟩, trivial⟩
    · have H := bf h H
      refine wk ?_
      cases H
      refine iq_e (fun hq => ?_)
      cases hq
      refine wk ?_
      exact weak_of ⟨rfl, rfl, wn rfl (by first | rfl | simp), rfl, trivial⟩ ⟨rfl, ⟨rfl, rfl⟩, rfl, ⟨rfl, rfl⟩, trivial⟩
  refine wk ?_
  obtain ⟨r13, hr13, H⟩ := ob H
  refine awr_step rfl (cw (o := 200) (sl1Once_c hr13) rfl rfl rfl rfl rfl rfl trivial rfl rfl rfl rfl) ?_
  refine wk ?_
  obtain ⟨⟨v14, v15, v16, v17⟩, Hj, H⟩ := ob H
  refine awc_join ⟨[(3, .v (.c (.w 211 v17.length)))], [(200, .var 81 [.d false (.l (v14.map eU8)), .d false (.i .i64 v15), .d false (.i .i64 v16)]), (211, .row 52 4 (v17.map eTRoamingAgreement) true true)], 212⟩ ?_ ?_
  · have H := Hj
    refine wk ?_
    refine awc_cond rfl (fun h => ?_) (fun h => ?_)
    · have H := bt h H
      refine wk ?_
      obtain ⟨r18, hr18, H⟩ := ob H
      refine awr_step rfl (cw (o := 200) (sl19Any_c hr18) rfl rfl rfl rfl rfl rfl trivial rfl rfl rfl rfl) ?_
      refine wk ?_
      obtain ⟨h, H⟩ := rq H
      refine awr_step rfl (apT (enc := eTRoamingAgreement) (ys := [r18.1]) (zs := v11) h rfl (fun _ => rfl) (by first | rfl | simp) (.w rfl (by first | rfl | exact lm _ | simp)) rfl rfl rfl rfl rfl rfl rfl rfl) ?_
      refine wk ?_
      cases H
      exact weak_of ⟨wn rfl (by first | rfl | simp), rfl, trivial⟩ ⟨rfl, ⟨rfl, rfl⟩, rfl, ⟨rfl, rfl⟩, trivial⟩
    · have H := bf h H
      refine wk ?_
      cases H
      refine weak_trans (weak_up (nx' := 212) rfl) ?_
      refine weak_trans (weak_swp (p := 211) (q := 210) rfl rfl rfl rfl) ?_
      exact weak_of ⟨wn rfl (by first | rfl | simp), rfl, trivial⟩ ⟨rfl, ⟨rfl, rfl⟩, rfl, ⟨rfl, rfl⟩, trivial⟩
  refine wk ?_
  cases H
  exact fin_retW (.cons (.tmp rfl) .nil) rfl rfl (by first | rfl | simp) rfl (by first | rfl | simp)
def sl4Any (a0 : Tl1Cur) : Option (TSubscriberID × Tl1Cur) :=
  Option.bind (sl4Who a0) fun r1 => Option.bind (sl1Below r1.2 8) fun r2 => Option.bind (bif eqB r2.1 0 then (Option.bind (sl1Int r2.2 [-1, 3, 4]) fun r8 => some (r8.2.fb, r8.2.fi, r8.2.fh, r8.1, r1.1.Number)) else (Option.bind (bif eqB r2.1 1 then (Option.bind (sl1Int r2.2 [-1, 99, 100]) fun r13 => some (r13.2.fb, r13.2.fi, r13.2.fh, r13.1)) else (some (r2.2.fb, r2.2.fi, r2.2.fh, r1.1.Number))) fun ((v9, v10, v11, v12) : List Int × Int × Int × Int) => some (v9, v10, v11, r1.1.Network, v12))) fun ((v3, v4, v5, v6, v7) : List Int × Int × Int × Int × Int) => some ((⟨v6, v7⟩ : TSubscriberID), (⟨v3, v4, v5⟩ : Tl1Cur))
theorem sl4Any_c {a0 : Tl1Cur} {r : TSubscriberID × Tl1Cur} (H : sl4Any a0 = some r) : FnW Try.prog 33 (.var 81 [.d false (.l (a0.fb.map eU8)), .d false (.i .i64 a0.fi), .d false (.i .i64 a0.fh)]) [.v (.c (.p 200 0))] (.var 81 [.d false (.l (r.2.fb.map eU8)), .d false (.i .i64 r.2.fi), .d false (.i .i64 r.2.fh)]) [.agg [.d (.i .i64 r.1.Network), .d (.i .i64 r.1.Number)]] := by
  refine fn_inW Try.func33 rfl (by kernel_rfl) Try.ntmps33 rfl rfl rfl rfl rfl ?_
  refine wk ?_
  obtain ⟨r1, hr1, H⟩ := ob H
  refine awr_step rfl (cw (o := 200) (sl4Who_c hr1) rfl rfl rfl rfl rfl rfl trivial rfl rfl rfl rfl) ?_
  refine wk ?_
  obtain ⟨r2, hr2, H⟩ := ob H
  refine awr_step rfl (cw (o := 200) (sl1Below_c hr2) rfl rfl rfl rfl rfl rfl trivial rfl rfl rfl rfl) ?_
  refine wk ?_
  obtain ⟨⟨v3, v4, v5, v6, v7⟩, Hj, H⟩ := ob H
  refine awc_join ⟨[(2, .v (.c (.p 210 0))), (3, .v (.c (.p 211 0)))], [(200, .var 81 [.d false (.l (v3.map eU8)), .d false (.i .i64 v4), .d false (.i .i64 v5)]), (210, .var 30 [.d false (.i .i64 0), .d false (.i .i64 0)]), (211, .var 30 [.d false (.i .i64 v6), .d false (.i .i64 v7)])], 212⟩ ?_ ?_
  · have H := Hj
    refine wk ?_
    refine awc_cond rfl (fun h => ?_) (fun h => ?_)
    · have H := bt h H
      refine wk ?_
      obtain ⟨r8, hr8, H⟩ := ob H
      refine awr_weak (weak_frz (o := 212) rfl rfl) ?_
      refine awr_weak (weak_cast (k := 11) rfl rfl ⟨by first | rfl | simp, trivial⟩) ?_
      refine awr_step rfl (cw (o := 200) (sl1Int_c hr8) rfl rfl rfl rfl rfl rfl trivial rfl rfl rfl rfl) ?_
      refine wk ?_
      cases H
      exact weak_of ⟨rfl, rfl, rfl, rfl, trivial⟩ ⟨rfl, ⟨rfl, rfl⟩, rfl, ⟨rfl, rfl⟩, rfl, ⟨rfl, rfl⟩, trivial⟩
    · have H := bf h H
      refine wk ?_
      obtain ⟨⟨v9, v10, v11, v12⟩, Hj, H⟩ := ob H
      refine awc_join ⟨[(2, .v (.c (.p 210 0))), (3, .v (.c (.p 211 0)))], [(200, .var 81 [.d false (.l (v9.map eU8)), .d false (.i .i64 v10), .d false (.i .i64 v11)]), (210, .var 30 [.d false (.i .i64 0), .d false (.i .i64 0)]), (211, .var 30 [.d false (.i .i64 r1.1.Network), .d false (.i .i64 v12)])], 212⟩ ?_ ?_
      · have H := Hj
        refine wk ?_
        refine awc_cond rfl (fun h => ?_) (fun h => ?_)
        · have H := bt h H
          refine wk ?_
          obtain ⟨r13, hr13, H⟩ := ob H
          refine awr_weak (weak_frz (o := 212) rfl rfl) ?_
          refine awr_weak (weak_cast (k := 17) rfl rfl ⟨by first | rfl | simp, trivial⟩) ?_
          refine awr_step rfl (cw (o := 200) (sl1Int_c hr13) rfl rfl rfl rfl rfl rfl trivial rfl rfl rfl rfl) ?_
          refine wk ?_
          cases H
          exact weak_of ⟨rfl, rfl, rfl, rfl, trivial⟩ ⟨rfl, ⟨rfl, rfl⟩, rfl, ⟨rfl, rfl⟩, rfl, ⟨rfl, rfl⟩, trivial⟩
        · have H := bf h H
          refine wk ?_
          cases H
          exact weak_of ⟨rfl, rfl, rfl, rfl, trivial⟩ ⟨rfl, ⟨rfl, rfl⟩, rfl, ⟨rfl, rfl⟩, rfl, ⟨rfl, rfl⟩, trivial⟩
      refine wk ?_
      cases H
      exact weak_of ⟨rfl, rfl, rfl, rfl, trivial⟩ ⟨rfl, ⟨rfl, rfl⟩, rfl, ⟨rfl, rfl⟩, rfl, ⟨rfl, rfl⟩, trivial⟩
  refine wk ?_
  cases H
  exact fin_retW (.cons (.cell rfl rfl rfl) .nil) rfl rfl rfl rfl (by first | rfl | simp)
def sDrawCheckRoaming (a0 : List Int) : Option (TSubscription × List TRoamingAgreement × TSubscriberID × Int) :=
  Option.bind (sl1New a0) fun r1 => Option.bind (sl20Any r1) fun r2 => Option.bind (sl37Agreements r2.2) fun r3 => Option.bind (sl4Any r3.2) fun r4 => Option.bind (sl1Below r4.2 6) fun r5 => some (r2.1, r3.1, r4.1, WR (r5.1 - 1))
theorem sDrawCheckRoaming_c {a0 : List Int} {r : TSubscription × List TRoamingAgreement × TSubscriberID × Int} (H : sDrawCheckRoaming a0 = some r) : FnV Try.prog 12 [] [.v (.c (.d false (.l (a0.map eU8))))] [] (.tup [.agg [.d false (.i .i64 r.1.RateLimit), .d false (.i .i64 r.1.BestClass), .d false (.i .i64 r.1.GrantSize), .wn 210 r.1.RoamingNetworks.length], .c (.w 211 r.2.1.length), .agg [.d false (.i .i64 r.2.2.1.Network), .d false (.i .i64 r.2.2.1.Number)], .c (.d false (.i .i64 r.2.2.2))]) [(210, .rown 3 1 (r.1.RoamingNetworks.map eI) true), (211, .row 52 4 (r.2.1.map eTRoamingAgreement) true true)] := by
  refine fn_inV Try.func12 rfl (by kernel_rfl) Try.ntmps12 rfl rfl rfl ?_
  refine wkz ?_
  obtain ⟨r1, hr1, H⟩ := ob H
  refine awr_n rfl (cn (sl1New_c hr1) rfl rfl trivial rfl rfl rfl) ?_
  refine wkz ?_
  obtain ⟨r2, hr2, H⟩ := ob H
  refine awr_step rfl (cwv [(200, 212)] [(210, 213)] 214 (sl20Any_c hr2) rfl rfl rfl rfl rfl rfl rfl rfl rfl rfl rfl rfl rfl rfl) ?_
  refine wkz ?_
  obtain ⟨r3, hr3, H⟩ := ob H
  refine awr_step rfl (cw (o := 212) (sl37Agreements_c hr3) rfl rfl rfl rfl rfl rfl trivial rfl rfl rfl rfl) ?_
  refine wkz ?_
  refine awc_dz [0, 1, 2, 3, 4, 5, 6, 7, 8, 9, 10] Try.follows (by kernel_rfl) (by kernel_rfl) rfl ?_
  refine wkz ?_
  obtain ⟨r4, hr4, H⟩ := ob H
  refine dz_w rfl (cwx (o := 212) (sl4Any_c hr4) rfl rfl rfl rfl rfl rfl trivial rfl rfl rfl rfl) ?_
  refine wkz ?_
  obtain ⟨r5, hr5, H⟩ := ob H
  refine dz_w rfl (cwx (o := 212) (sl1Below_c hr5) rfl rfl rfl rfl rfl rfl trivial rfl rfl rfl rfl) ?_
  refine wkz ?_
  refine dz_w rfl (spx 100032 rfl rfl rfl rfl rfl rfl rfl rfl) ?_
  refine wkz ?_
  refine dz_w rfl (spx 100031 rfl rfl rfl rfl rfl rfl rfl rfl) ?_
  refine wkz ?_
  cases H
  refine clo_v (weak_swp (p := 213) (q := 210) rfl rfl rfl rfl) ?_
  refine clo_v (weak_swp (p := 215) (q := 211) rfl rfl rfl rfl) ?_
  exact fin_retV (.cons (.cell rfl rfl rfl) (.cons (.tmp rfl) (.cons (.cell rfl rfl rfl) (.cons (.tmp rfl) .nil)))) rfl (by first | rfl | simp) trivial ⟨rfl, rfl, trivial⟩
def sFindAgreement_L1 (a0 : List TRoamingAgreement) (a1 : Int) (a2 : Int) : Int → Option (Step (Int) (Int))
  | v1 => bif ltB v1 ((a0.length : Nat) : Int) then (Option.bind (ix a0 v1) fun x2 => Option.bind (bif eqB x2.Home a1 then (Option.bind (ix a0 v1) fun x4 => some (eqB x4.Visited a2)) else (some false)) fun (v3 : Bool) => bif v3 then (dn (some v1)) else (some (.next (WR (v1 + 1))))) else (dn (some (-1)))
def sFindAgreement (a0 : List TRoamingAgreement) (a1 : Int) (a2 : Int) : Option Int :=
  iter (sFindAgreement_L1 a0 a1 a2) FU 0
theorem sFindAgreement_c {a0 : List TRoamingAgreement} {a1 : Int} {a2 : Int} {r : Int} (H : sFindAgreement a0 a1 a2 = some r) : Fn Try.prog 19 [aL (a0.map eTRoamingAgreement), aI a1, aI a2] [.c (.d (.i .i64 r))] := by
  refine fn_in Try.func19 rfl (by kernel_rfl) Try.ntmps19 rfl rfl rfl ?_
  refine wk ?_
  refine awc_iter (fun (q : Int) => ⟨[(0, .v (.c (.d false (.l (a0.map eTRoamingAgreement))))), (1, tI a1), (2, tI a2), (7, tI q)], [], 0⟩) H (weak_of ⟨rfl, rfl, rfl, rfl, rfl, rfl, rfl, rfl, trivial⟩ trivial) ?_
  rintro v1 o H
  try dsimp only
  refine wk ?_
  refine awc_cond rfl (fun h => ?_) (fun h => ?_)
  · have H := bt h H
    refine wk ?_
    obtain ⟨x2, hx2, H⟩ := ob H
    refine awr_n rfl (xdT (enc := eTRoamingAgreement) hx2 (fun _ => rfl) rfl rfl rfl) ?_
    refine wk ?_
    obtain ⟨v3, Hj, H⟩ := ob H
    refine awr_join ⟨[(0, .v (.c (.d false (.l (a0.map eTRoamingAgreement))))), (1, tI a1), (2, tI a2), (7, tI v1), (29, tB v3)], [], 0⟩ ?_ ?_
    · have H := Hj
      refine wk ?_
      refine g2 rfl rfl rfl (fun h => ?_) (fun h => ?_)
      · have H := bt h H
        refine wk ?_
        obtain ⟨x4, hx4, H⟩ := ob H
        refine awr_ng rfl rfl rfl rfl (xdT (enc := eTRoamingAgreement) hx4 (fun _ => rfl) rfl rfl rfl) ?_
        refine wk ?_
        cases H
        exact weak_of ⟨rfl, rfl, rfl, rfl, rfl, rfl, rfl, rfl, rfl, rfl, trivial⟩ trivial
      · have H := bf h H
        refine wk ?_
        cases H
        exact weak_of ⟨rfl, rfl, rfl, rfl, rfl, rfl, rfl, rfl, rfl, rfl, trivial⟩ trivial
    refine wk ?_
    refine awc_cond rfl (fun h => ?_) (fun h => ?_)
    · have H := bt h H
      refine wk ?_
      obtain ⟨r0, Hd, rfl⟩ := dnE H
      refine iq_r (fun hq => ?_)
      have H := Hd.trans (congrArg some hq)
      refine wk ?_
      cases H
      exact fin_ret (.cons (.tmp rfl) .nil) rfl rfl rfl
    · have H := bf h H
      refine wk ?_
      cases H
      refine iq_n ?_
      exact weak_of ⟨rfl, rfl, rfl, rfl, rfl, rfl, rfl, rfl, trivial⟩ trivial
  · have H := bf h H
    refine wk ?_
    obtain ⟨r0, Hd, rfl⟩ := dnE H
    refine iq_e (fun hq => ?_)
    have H := Hd.trans (congrArg some hq)
    refine wk ?_
    cases H
    exact fin_ret (.cons (.tmp rfl) .nil) rfl rfl rfl
def sIsValidAgreement (a0 : TRoamingAgreement) : Option Bool :=
  Option.bind (sl1In a0.Home 0 3) fun r1 => Option.bind (bif r1 then (Option.bind (sl1In a0.Visited 0 3) fun r3 => bif r3 then (bif !eqB a0.Home a0.Visited then (Option.bind (sl1In a0.Price 0 1000) fun r4 => bif r4 then (Option.bind (sl1In a0.Cap 0 1000000000000) fun r5 => some r5) else (some false)) else (some false)) else (some false)) else (some false)) fun (v2 : Bool) => some v2
theorem sIsValidAgreement_c {a0 : TRoamingAgreement} {r : Bool} (H : sIsValidAgreement a0 = some r) : Fn Try.prog 20 [.agg (eTRoamingAgreement a0)] [.c (.d (.b r))] := by
  refine fn_in Try.func20 rfl (by kernel_rfl) Try.ntmps20 rfl rfl rfl ?_
  refine wk ?_
  obtain ⟨r1, hr1, H⟩ := ob H
  refine awr_n rfl (ca rfl rfl rfl (sl1In_c hr1) trivial rfl rfl rfl rfl) ?_
  refine wk ?_
  obtain ⟨v2, Hj, H⟩ := ob H
  refine awr_join ⟨[(2, tB v2)], [], 0⟩ ?_ ?_
  · have H := Hj
    refine wk ?_
    refine g2 rfl rfl rfl (fun h => ?_) (fun h => ?_)
    · have H := bt h H
      refine wk ?_
      obtain ⟨r3, hr3, H⟩ := ob H
      refine awr_ng rfl rfl rfl rfl (ca rfl rfl rfl (sl1In_c hr3) trivial rfl rfl rfl rfl) ?_
      refine wk ?_
      refine g2 rfl rfl rfl (fun h => ?_) (fun h => ?_)
      · have H := bt h H
        refine wk ?_
        refine g2 rfl rfl rfl (fun h => ?_) (fun h => ?_)
        · have H := bt h H
          refine wk ?_
          obtain ⟨r4, hr4, H⟩ := ob H
          refine awr_ng rfl rfl rfl rfl (ca rfl rfl rfl (sl1In_c hr4) trivial rfl rfl rfl rfl) ?_
          refine wk ?_
          refine g2 rfl rfl rfl (fun h => ?_) (fun h => ?_)
          · have H := bt h H
            refine wk ?_
            obtain ⟨r5, hr5, H⟩ := ob H
            refine awr_ng rfl rfl rfl rfl (ca rfl rfl rfl (sl1In_c hr5) trivial rfl rfl rfl rfl) ?_
            refine wk ?_
            cases H
            exact weak_of ⟨rfl, rfl, trivial⟩ trivial
          · have H := bf h H
            refine wk ?_
            cases H
            exact weak_of ⟨rfl, rfl, trivial⟩ trivial
        · have H := bf h H
          refine wk ?_
          cases H
          exact weak_of ⟨rfl, rfl, trivial⟩ trivial
      · have H := bf h H
        refine wk ?_
        cases H
        exact weak_of ⟨rfl, rfl, trivial⟩ trivial
    · have H := bf h H
      refine wk ?_
      cases H
      exact weak_of ⟨rfl, rfl, trivial⟩ trivial
  refine wk ?_
  cases H
  exact fin_ret (.cons (.tmp rfl) .nil) rfl rfl rfl
def sDrawRoaming (a0 : List Int) : Option (List TRegistration × TSubscription × List TRoamingAgreement × TSubscriberID) :=
  Option.bind (sl1New a0) fun r1 => Option.bind (sl21Draw r1) fun r2 => Option.bind (sl20Plan r2.2) fun r3 => Option.bind (sl37Agreements r3.2) fun r4 => Option.bind (sl4Who r4.2) fun r5 => some (r2.1, r3.1, r4.1, r5.1)
theorem sDrawRoaming_c {a0 : List Int} {r : List TRegistration × TSubscription × List TRoamingAgreement × TSubscriberID} (H : sDrawRoaming a0 = some r) : FnV Try.prog 21 [] [.v (.c (.d false (.l (a0.map eU8))))] [] (.tup [.c (.w 210 r.1.length), .agg [.d false (.i .i64 r.2.1.RateLimit), .d false (.i .i64 r.2.1.BestClass), .d false (.i .i64 r.2.1.GrantSize), .wn 211 r.2.1.RoamingNetworks.length], .c (.w 212 r.2.2.1.length), .agg [.d false (.i .i64 r.2.2.2.Network), .d false (.i .i64 r.2.2.2.Number)]]) [(210, .row 34 6 (r.1.map eTRegistration) true true), (211, .rown 3 1 (r.2.1.RoamingNetworks.map eI) true), (212, .row 52 4 (r.2.2.1.map eTRoamingAgreement) true true)] := by
  refine fn_inV Try.func21 rfl (by kernel_rfl) Try.ntmps21 rfl rfl rfl ?_
  refine wkz ?_
  obtain ⟨r1, hr1, H⟩ := ob H
  refine awr_n rfl (cn (sl1New_c hr1) rfl rfl trivial rfl rfl rfl) ?_
  refine wkz ?_
  obtain ⟨r2, hr2, H⟩ := ob H
  refine awr_step rfl (cw (o := 212) (sl21Draw_c hr2) rfl rfl rfl rfl rfl rfl trivial rfl rfl rfl rfl) ?_
  refine wkz ?_
  obtain ⟨r3, hr3, H⟩ := ob H
  refine awr_step rfl (cwv [(200, 212)] [(210, 214)] 215 (sl20Plan_c hr3) rfl rfl rfl rfl rfl rfl rfl rfl rfl rfl rfl rfl rfl rfl) ?_
  refine wkz ?_
  obtain ⟨r4, hr4, H⟩ := ob H
  refine awr_step rfl (cw (o := 212) (sl37Agreements_c hr4) rfl rfl rfl rfl rfl rfl trivial rfl rfl rfl rfl) ?_
  refine wkz ?_
  refine awc_dz [0, 1, 2, 3, 4, 5, 6, 7, 8] Try.follows (by kernel_rfl) (by kernel_rfl) rfl ?_
  refine wkz ?_
  obtain ⟨r5, hr5, H⟩ := ob H
  refine dz_w rfl (cwx (o := 212) (sl4Who_c hr5) rfl rfl rfl rfl rfl rfl trivial rfl rfl rfl rfl) ?_
  refine wkz ?_
  refine dz_w rfl (spx 100038 rfl rfl rfl rfl rfl rfl rfl rfl) ?_
  refine wkz ?_
  refine dz_w rfl (spx 100037 rfl rfl rfl rfl rfl rfl rfl rfl) ?_
  refine wkz ?_
  cases H
  refine clo_v (weak_swp (p := 213) (q := 210) rfl rfl rfl rfl) ?_
  refine clo_v (weak_swp (p := 214) (q := 211) rfl rfl rfl rfl) ?_
  refine clo_v (weak_swp (p := 216) (q := 212) rfl rfl rfl rfl) ?_
  exact fin_retV (.cons (.tmp rfl) (.cons (.cell rfl rfl rfl) (.cons (.tmp rfl) (.cons (.cell rfl rfl rfl) .nil)))) rfl (by first | rfl | simp) trivial ⟨rfl, rfl, rfl, trivial⟩
def sl10Has_L1 (a0 : List Int) (a1 : Int) : Int → Option (Step (Int) (Bool))
  | v1 => bif ltB v1 ((a0.length : Nat) : Int) then (Option.bind (ix a0 v1) fun x2 => bif eqB x2 a1 then (dn (some true)) else (some (.next (WR (v1 + 1))))) else (dn (some false))
def sl10Has (a0 : List Int) (a1 : Int) : Option Bool :=
  iter (sl10Has_L1 a0 a1) FU 0
theorem sl10Has_c {a0 : List Int} {a1 : Int} {r : Bool} (H : sl10Has a0 a1 = some r) : Fn Try.prog 61 [aL (a0.map eI), aI a1] [.c (.d (.b r))] := by
  refine fn_in Try.func61 rfl (by kernel_rfl) Try.ntmps61 rfl rfl rfl ?_
  refine wk ?_
  refine awc_iter (fun (q : Int) => ⟨[(0, .v (.c (.d false (.l (a0.map eI))))), (1, tI a1), (5, tI q)], [], 0⟩) H (weak_of ⟨rfl, rfl, rfl, rfl, rfl, rfl, trivial⟩ trivial) ?_
  rintro v1 o H
  try dsimp only
  refine wk ?_
  refine awc_cond rfl (fun h => ?_) (fun h => ?_)
  · have H := bt h H
    refine wk ?_
    obtain ⟨x2, hx2, H⟩ := ob H
    refine awr_n rfl (xdT (enc := eI) hx2 (fun _ => rfl) rfl rfl rfl) ?_
    refine wk ?_
    refine awc_cond rfl (fun h => ?_) (fun h => ?_)
    · have H := bt h H
      refine wk ?_
      obtain ⟨r0, Hd, rfl⟩ := dnE H
      refine iq_r (fun hq => ?_)
      have H := Hd.trans (congrArg some hq)
      refine wk ?_
      cases H
      exact fin_ret (.cons (.tmp rfl) .nil) rfl rfl rfl
    · have H := bf h H
      refine wk ?_
      cases H
      refine iq_n ?_
      exact weak_of ⟨rfl, rfl, rfl, rfl, rfl, rfl, trivial⟩ trivial
  · have H := bf h H
    refine wk ?_
    obtain ⟨r0, Hd, rfl⟩ := dnE H
    refine iq_e (fun hq => ?_)
    have H := Hd.trans (congrArg some hq)
    refine wk ?_
    cases H
    exact fin_ret (.cons (.tmp rfl) .nil) rfl rfl rfl
def sRoamingAllowed (a0 : TSubscription) (a1 : Int) (a2 : Int) : Option Bool :=
  Option.bind (bif eqB a2 a1 then (some true) else (Option.bind (sl10Has a0.RoamingNetworks a2) fun r2 => some r2)) fun (v1 : Bool) => some v1
theorem sRoamingAllowed_c {a0 : TSubscription} {a1 : Int} {a2 : Int} {r : Bool} (H : sRoamingAllowed a0 a1 a2 = some r) : Fn Try.prog 45 [.agg (eTSubscription a0), aI a1, aI a2] [.c (.d (.b r))] := by
  refine fn_in Try.func45 rfl (by kernel_rfl) Try.ntmps45 rfl rfl rfl ?_
  refine wk ?_
  obtain ⟨v1, Hj, H⟩ := ob H
  refine awr_join ⟨[(6, tB v1)], [], 0⟩ ?_ ?_
  · have H := Hj
    refine wk ?_
    refine g2 rfl rfl rfl (fun h => ?_) (fun h => ?_)
    · have H := bt h H
      refine wk ?_
      cases H
      exact weak_of ⟨rfl, rfl, trivial⟩ trivial
    · have H := bf h H
      refine wk ?_
      obtain ⟨r2, hr2, H⟩ := ob H
      refine awr_ng rfl rfl rfl rfl (ca rfl rfl rfl (sl10Has_c hr2) trivial rfl rfl rfl rfl) ?_
      refine wk ?_
      cases H
      exact weak_of ⟨rfl, rfl, trivial⟩ trivial
  refine wk ?_
  cases H
  exact fin_ret (.cons (.tmp rfl) .nil) rfl rfl rfl
def sCheckRoaming (a0 : TSubscription) (a1 : List TRoamingAgreement) (a2 : TSubscriberID) (a3 : Int) : Option Int :=
  Option.bind (sFindAgreement a1 a2.Network a3) fun r1 => Option.bind (sl1In a3 0 3) fun r2 => Option.bind (bif !r2 then (some true) else (Option.bind (sIsValidSubscriberID a2) fun r4 => some (!r4))) fun (v3 : Bool) => bif v3 then (some 1) else (bif eqB a3 a2.Network then (some 0) else (Option.bind (sRoamingAllowed a0 a2.Network a3) fun r5 => bif !r5 then (some 2) else (Option.bind (bif ltB r1 0 then (some true) else (Option.bind (ix a1 r1) fun x7 => Option.bind (sIsValidAgreement x7) fun r8 => some (!r8))) fun (v6 : Bool) => bif v6 then (some 3) else (some 0))))
theorem sCheckRoaming_c {a0 : TSubscription} {a1 : List TRoamingAgreement} {a2 : TSubscriberID} {a3 : Int} {r : Int} (H : sCheckRoaming a0 a1 a2 a3 = some r) : Fn Try.prog 24 [.agg (eTSubscription a0), aL (a1.map eTRoamingAgreement), .agg (eTSubscriberID a2), aI a3] [.c (.d (.i .i64 r))] := by
  refine fn_in Try.func24 rfl (by kernel_rfl) Try.ntmps24 rfl rfl rfl ?_
  refine wk ?_
  obtain ⟨r1, hr1, H⟩ := ob H
  refine awr_n rfl (ca rfl rfl rfl (sFindAgreement_c hr1) trivial rfl rfl rfl rfl) ?_
  refine wk ?_
  obtain ⟨r2, hr2, H⟩ := ob H
  refine awr_n rfl (ca rfl rfl rfl (sl1In_c hr2) trivial rfl rfl rfl rfl) ?_
  refine wk ?_
  obtain ⟨v3, Hj, H⟩ := ob H
  refine awr_join ⟨[(1, .v (.c (.d false (.l (a1.map eTRoamingAgreement))))), (3, tI a3), (4, .v (.c (.p 0 0))), (6, .v (.c (.p 1 0))), (9, tI r1), (15, tB v3)], [(0, .var 40 [.d false (.i .i64 a0.RateLimit), .d false (.i .i64 a0.BestClass), .d false (.i .i64 a0.GrantSize), .d false (.l (a0.RoamingNetworks.map eI))]), (1, .var 30 [.d false (.i .i64 a2.Network), .d false (.i .i64 a2.Number)])], 2⟩ ?_ ?_
  · have H := Hj
    refine wk ?_
    refine g2 rfl rfl rfl (fun h => ?_) (fun h => ?_)
    · have H := bt h H
      refine wk ?_
      cases H
      exact weak_of ⟨rfl, rfl, rfl, rfl, rfl, rfl, rfl, rfl, rfl, rfl, rfl, rfl, trivial⟩ ⟨rfl, ⟨rfl, rfl⟩, rfl, ⟨rfl, rfl⟩, trivial⟩
    · have H := bf h H
      refine wk ?_
      obtain ⟨r4, hr4, H⟩ := ob H
      refine awr_ng rfl rfl rfl rfl (ca rfl rfl rfl (sIsValidSubscriberID_c hr4) trivial rfl rfl rfl rfl) ?_
      refine wk ?_
      cases H
      exact weak_of ⟨rfl, rfl, rfl, rfl, rfl, rfl, rfl, rfl, rfl, rfl, rfl, rfl, trivial⟩ ⟨rfl, ⟨rfl, rfl⟩, rfl, ⟨rfl, rfl⟩, trivial⟩
  refine wk ?_
  refine awc_cond rfl (fun h => ?_) (fun h => ?_)
  · have H := bt h H
    refine wk ?_
    cases H
    exact fin_ret (.cons (.tmp rfl) .nil) rfl rfl rfl
  · have H := bf h H
    refine wk ?_
    refine awc_cond rfl (fun h => ?_) (fun h => ?_)
    · have H := bt h H
      refine wk ?_
      cases H
      exact fin_ret (.cons (.tmp rfl) .nil) rfl rfl rfl
    · have H := bf h H
      refine wk ?_
      obtain ⟨r5, hr5, H⟩ := ob H
      refine awr_n rfl (ca rfl rfl rfl (sRoamingAllowed_c hr5) trivial rfl rfl rfl rfl) ?_
      refine wk ?_
      refine awc_cond rfl (fun h => ?_) (fun h => ?_)
      · have H := bt h H
        refine wk ?_
        cases H
        exact fin_ret (.cons (.tmp rfl) .nil) rfl rfl rfl
      · have H := bf h H
        refine wk ?_
        obtain ⟨v6, Hj, H⟩ := ob H
        refine awr_join ⟨[(36, tB v6)], [], 0⟩ ?_ ?_
        · have H := Hj
          refine wk ?_
          refine g2 rfl rfl rfl (fun h => ?_) (fun h => ?_)
          · have H := bt h H
            refine wk ?_
            cases H
            exact weak_of ⟨rfl, rfl, trivial⟩ trivial
          · have H := bf h H
            refine wk ?_
            obtain ⟨x7, hx7, H⟩ := ob H
            refine awr_ng rfl rfl rfl rfl (xdT (enc := eTRoamingAgreement) hx7 (fun _ => rfl) rfl rfl rfl) ?_
            refine wk ?_
            obtain ⟨r8, hr8, H⟩ := ob H
            refine awr_ng rfl rfl rfl rfl (ca rfl rfl rfl (sIsValidAgreement_c hr8) trivial rfl rfl rfl rfl) ?_
            refine wk ?_
            cases H
            exact weak_of ⟨rfl, rfl, trivial⟩ trivial
        refine wk ?_
        refine awc_cond rfl (fun h => ?_) (fun h => ?_)
        · have H := bt h H
          refine wk ?_
          cases H
          exact fin_ret (.cons (.tmp rfl) .nil) rfl rfl rfl
        · have H := bf h H
          refine wk ?_
          cases H
          exact fin_ret (.cons (.tmp rfl) .nil) rfl rfl rfl
end Go.AM
