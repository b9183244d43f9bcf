/-
  Own text: a part of the abstract machine for this seat (Dai). No statement is proved here.
-/
import Derived.Test.YtmlpfnppnjfcaaaDoorDag
set_option linter.unusedVariables false
namespace Go.AM
open Go.Proofs
attribute [local irreducible] AWN NS AWO AWR AWC DR Weak iterQ
set_option maxRecDepth 100000
set_option maxHeartbeats 4000000
def iFindBook_L1 (a0 : List TOperatorBook) (a1 : Int) : Int → Option (Step (Int) (Int))
  | v1 => bif ltB v1 ((a0.length : Nat) : Int) then (Option.bind (ix a0 v1) fun x2 => bif eqB x2.Network a1 then (dn (some v1)) else (some (.next (WR (v1 + 1))))) else (dn (some (-1)))
def iFindBook (a0 : List TOperatorBook) (a1 : Int) : Option Int :=
  iter (iFindBook_L1 a0 a1) FU 0
theorem iFindBook_c {a0 : List TOperatorBook} {a1 : Int} {r : Int} (H : iFindBook a0 a1 = some r) : Fn Tryd.prog 8 [aL (a0.map eTOperatorBook), aI a1] [.c (.d (.i .i64 r))] := by
  refine fn_in Tryd.func8 rfl (by kernel_rfl) Tryd.ntmps8 rfl rfl rfl ?_
  refine wk ?_
  refine awc_iter (fun (q : Int) => ⟨[(1, tI a1), (7, .v (.c (.d false (.l (a0.map eTOperatorBook))))), (8, tI ((a0.length : Nat) : Int)), (9, tI q)], [], 0⟩) H (weak_of ⟨rfl, rfl, rfl, rfl, rfl, rfl, rfl, rfl, trivial⟩ trivial) ?_
  rintro v1 o H
  try dsimp only
  refine wk ?_
  refine awc_cond rfl (fun h => ?_) (fun h => ?_)
  · have H := bt h H
    refine wk ?_
    obtain ⟨x2, hx2, H⟩ := ob H
    refine awr_n rfl (xdT (enc := eTOperatorBook) hx2 (fun _ => rfl) rfl rfl rfl) ?_
    refine wk ?_
    refine awc_cond rfl (fun h => ?_) (fun h => ?_)
    · have H := bt h H
      refine wk ?_
      obtain ⟨r0, Hd, rfl⟩ := dnE H
      refine iq_r (fun hq => ?_)
      have H := Hd.trans (congrArg some hq)
      refine wk ?_
      cases H
      exact fin_ret (.cons (.tmp rfl) .nil) rfl rfl rfl
    · have H := bf h H
      refine wk ?_
      cases H
      refine iq_n ?_
      exact weak_of ⟨rfl, rfl, rfl, rfl, rfl, rfl, rfl, rfl, trivial⟩ trivial
  · have H := bf h H
    refine wk ?_
    obtain ⟨r0, Hd, rfl⟩ := dnE H
    refine iq_e (fun hq => ?_)
    have H := Hd.trans (congrArg some hq)
    refine wk ?_
    cases H
    exact fin_ret (.cons (.tmp rfl) .nil) rfl rfl rfl
def iInRange (a0 : Int) (a1 : Int) (a2 : Int) : Option Bool :=
  Option.bind (bif leB a1 a0 then (some (leB a0 a2)) else (some false)) fun (v1 : Bool) => some v1
theorem iInRange_c {a0 : Int} {a1 : Int} {a2 : Int} {r : Bool} (H : iInRange a0 a1 a2 = some r) : Fn Tryd.prog 18 [aI a0, aI a1, aI a2] [.c (.d (.b r))] := by
  refine fn_in Tryd.func18 rfl (by kernel_rfl) Tryd.ntmps18 rfl rfl rfl ?_
  refine wk ?_
  obtain ⟨v1, Hj, H⟩ := ob H
  refine awr_join ⟨[(6, tB v1)], [], 0⟩ ?_ ?_
  · have H := Hj
    refine wk ?_
    refine g2 rfl rfl rfl (fun h => ?_) (fun h => ?_)
    · have H := bt h H
      refine wk ?_
      cases H
      exact weak_of ⟨rfl, rfl, trivial⟩ trivial
    · have H := bf h H
      refine wk ?_
      cases H
      exact weak_of ⟨rfl, rfl, trivial⟩ trivial
  refine wk ?_
  cases H
  exact fin_ret (.cons (.tmp rfl) .nil) rfl rfl rfl
def iIsValidRecord (a0 : TUsageRecord) : Option Bool :=
  Option.bind (iInRange a0.Network 0 3) fun r1 => Option.bind (bif r1 then (bif leB 0 a0.SessionID then (Option.bind (iInRange a0.Seq 1 100000) fun r3 => bif r3 then (Option.bind (iInRange a0.Bytes 0 100000) fun r4 => some r4) else (some false)) else (some false)) else (some false)) fun (v2 : Bool) => some v2
theorem iIsValidRecord_c {a0 : TUsageRecord} {r : Bool} (H : iIsValidRecord a0 = some r) : Fn Tryd.prog 37 [.agg (eTUsageRecord a0)] [.c (.d (.b r))] := by
  refine fn_in Tryd.func37 rfl (by kernel_rfl) Tryd.ntmps37 rfl rfl rfl ?_
  refine wk ?_
  obtain ⟨r1, hr1, H⟩ := ob H
  refine awr_n rfl (ca rfl rfl rfl (iInRange_c hr1) trivial rfl rfl rfl rfl) ?_
  refine wk ?_
  obtain ⟨v2, Hj, H⟩ := ob H
  refine awr_join ⟨[(2, tB v2)], [], 0⟩ ?_ ?_
  · have H := Hj
    refine wk ?_
    refine g2 rfl rfl rfl (fun h => ?_) (fun h => ?_)
    · have H := bt h H
      refine wk ?_
      refine g2 rfl rfl rfl (fun h => ?_) (fun h => ?_)
      · have H := bt h H
        refine wk ?_
        obtain ⟨r3, hr3, H⟩ := ob H
        refine awr_ng rfl rfl rfl rfl (ca rfl rfl rfl (iInRange_c hr3) trivial rfl rfl rfl rfl) ?_
        refine wk ?_
        refine g2 rfl rfl rfl (fun h => ?_) (fun h => ?_)
        · have H := bt h H
          refine wk ?_
          obtain ⟨r4, hr4, H⟩ := ob H
          refine awr_ng rfl rfl rfl rfl (ca rfl rfl rfl (iInRange_c hr4) trivial rfl rfl rfl rfl) ?_
          refine wk ?_
          cases H
          exact weak_of ⟨rfl, rfl, trivial⟩ trivial
        · have H := bf h H
          refine wk ?_
          cases H
          exact weak_of ⟨rfl, rfl, trivial⟩ trivial
      · have H := bf h H
        refine wk ?_
        cases H
        exact weak_of ⟨rfl, rfl, trivial⟩ trivial
    · have H := bf h H
      refine wk ?_
      cases H
      exact weak_of ⟨rfl, rfl, trivial⟩ trivial
  refine wk ?_
  cases H
  exact fin_ret (.cons (.tmp rfl) .nil) rfl rfl rfl
def isameRecord (a0 : TUsageRecord) (a1 : TUsageRecord) : Option Bool :=
  Option.bind (bif eqB a0.Network a1.Network then (bif eqB a0.SessionID a1.SessionID then (some (eqB a0.Seq a1.Seq)) else (some false)) else (some false)) fun (v1 : Bool) => some v1
theorem isameRecord_c {a0 : TUsageRecord} {a1 : TUsageRecord} {r : Bool} (H : isameRecord a0 a1 = some r) : Fn Tryd.prog 49 [.agg (eTUsageRecord a0), .agg (eTUsageRecord a1)] [.c (.d (.b r))] := by
  refine fn_in Tryd.func49 rfl (by kernel_rfl) Tryd.ntmps49 rfl rfl rfl ?_
  refine wk ?_
  obtain ⟨v1, Hj, H⟩ := ob H
  refine awr_join ⟨[(4, tB v1)], [], 0⟩ ?_ ?_
  · have H := Hj
    refine wk ?_
    refine g2 rfl rfl rfl (fun h => ?_) (fun h => ?_)
    · have H := bt h H
      refine wk ?_
      refine g2 rfl rfl rfl (fun h => ?_) (fun h => ?_)
      · have H := bt h H
        refine wk ?_
        cases H
        exact weak_of ⟨rfl, rfl, trivial⟩ trivial
      · have H := bf h H
        refine wk ?_
        cases H
        exact weak_of ⟨rfl, rfl, trivial⟩ trivial
    · have H := bf h H
      refine wk ?_
      cases H
      exact weak_of ⟨rfl, rfl, trivial⟩ trivial
  refine wk ?_
  cases H
  exact fin_ret (.cons (.tmp rfl) .nil) rfl rfl rfl
def iFindRecord_L1 (a0 : List TUsageRecord) (a1 : TUsageRecord) : Int → Option (Step (Int) (Int))
  | v1 => bif ltB v1 ((a0.length : Nat) : Int) then (Option.bind (ix a0 v1) fun x2 => Option.bind (isameRecord x2 a1) fun r3 => bif r3 then (dn (some v1)) else (some (.next (WR (v1 + 1))))) else (dn (some (-1)))
def iFindRecord (a0 : List TUsageRecord) (a1 : TUsageRecord) : Option Int :=
  iter (iFindRecord_L1 a0 a1) FU 0
theorem iFindRecord_c {a0 : List TUsageRecord} {a1 : TUsageRecord} {r : Int} (H : iFindRecord a0 a1 = some r) : Fn Tryd.prog 38 [aL (a0.map eTUsageRecord), .agg (eTUsageRecord a1)] [.c (.d (.i .i64 r))] := by
  refine fn_in Tryd.func38 rfl (by kernel_rfl) Tryd.ntmps38 rfl rfl rfl ?_
  refine wk ?_
  refine awc_iter (fun (q : Int) => ⟨[(3, .v (.c (.p 0 0))), (7, .v (.c (.d false (.l (a0.map eTUsageRecord))))), (8, tI ((a0.length : Nat) : Int)), (9, tI q)], [(0, .var 48 [.d false (.i .i64 a1.Network), .d false (.i .i64 a1.SessionID), .d false (.i .i64 a1.Seq), .d false (.i .i64 a1.Bytes)])], 1⟩) H (weak_of ⟨rfl, rfl, rfl, rfl, rfl, rfl, rfl, rfl, trivial⟩ ⟨rfl, ⟨rfl, rfl⟩, trivial⟩) ?_
  rintro v1 o H
  try dsimp only
  refine wk ?_
  refine awc_cond rfl (fun h => ?_) (fun h => ?_)
  · have H := bt h H
    refine wk ?_
    obtain ⟨x2, hx2, H⟩ := ob H
    refine awr_n rfl (xdT (enc := eTUsageRecord) hx2 (fun _ => rfl) rfl rfl rfl) ?_
    refine wk ?_
    obtain ⟨r3, hr3, H⟩ := ob H
    refine awr_n rfl (ca rfl rfl rfl (isameRecord_c hr3) trivial rfl rfl rfl rfl) ?_
    refine wk ?_
    refine awc_cond rfl (fun h => ?_) (fun h => ?_)
    · have H := bt h H
      refine wk ?_
      obtain ⟨r0, Hd, rfl⟩ := dnE H
      refine iq_r (fun hq => ?_)
      have H := Hd.trans (congrArg some hq)
      refine wk ?_
      cases H
      exact fin_ret (.cons (.tmp rfl) .nil) rfl rfl rfl
    · have H := bf h H
      refine wk ?_
      cases H
      refine iq_n ?_
      exact weak_of ⟨rfl, rfl, rfl, rfl, rfl, rfl, rfl, rfl, trivial⟩ ⟨rfl, ⟨rfl, rfl⟩, trivial⟩
  · have H := bf h H
    refine wk ?_
    obtain ⟨r0, Hd, rfl⟩ := dnE H
    refine iq_e (fun hq => ?_)
    have H := Hd.trans (congrArg some hq)
    refine wk ?_
    cases H
    exact fin_ret (.cons (.tmp rfl) .nil) rfl rfl rfl
def iAreValidRecords_L1 (a0 : List TUsageRecord) : Int → Option (Step (Int) (Bool))
  | v1 => bif ltB v1 ((a0.length : Nat) : Int) then (Option.bind (ix a0 v1) fun x2 => Option.bind (iIsValidRecord x2) fun r3 => Option.bind (bif !r3 then (some true) else (Option.bind (iFindRecord a0 x2) fun r5 => some (!eqB r5 v1))) fun (v4 : Bool) => bif v4 then (dn (some false)) else (some (.next (WR (v1 + 1))))) else (dn (some true))
def iAreValidRecords (a0 : List TUsageRecord) : Option Bool :=
  bif ltB 24 ((a0.length : Nat) : Int) then (some false) else (iter (iAreValidRecords_L1 a0) FU 0)
theorem iAreValidRecords_c {a0 : List TUsageRecord} {r : Bool} (H : iAreValidRecords a0 = some r) : Fn Tryd.prog 19 [aL (a0.map eTUsageRecord)] [.c (.d (.b r))] := by
  refine fn_in Tryd.func19 rfl (by kernel_rfl) Tryd.ntmps19 rfl rfl rfl ?_
  refine wk ?_
  refine awc_cond rfl (fun h => ?_) (fun h => ?_)
  · have H := bt h H
    refine wk ?_
    cases H
    exact fin_ret (.cons (.tmp rfl) .nil) rfl rfl rfl
  · have H := bf h H
    refine wk ?_
    refine awc_iter (fun (q : Int) => ⟨[(0, .v (.c (.d false (.l (a0.map eTUsageRecord))))), (8, .v (.c (.d false (.l (a0.map eTUsageRecord))))), (9, tI ((a0.length : Nat) : Int)), (10, tI q)], [], 0⟩) H (weak_of ⟨rfl, rfl, rfl, rfl, rfl, rfl, rfl, rfl, trivial⟩ trivial) ?_
    rintro v1 o H
    try dsimp only
    refine wk ?_
    refine awc_cond rfl (fun h => ?_) (fun h => ?_)
    · have H := bt h H
      refine wk ?_
      obtain ⟨x2, hx2, H⟩ := ob H
      refine awr_n rfl (xdT (enc := eTUsageRecord) hx2 (fun _ => rfl) rfl rfl rfl) ?_
      refine wk ?_
      obtain ⟨r3, hr3, H⟩ := ob H
      refine awr_n rfl (ca rfl rfl rfl (iIsValidRecord_c hr3) trivial rfl rfl rfl rfl) ?_
      refine wk ?_
      obtain ⟨v4, Hj, H⟩ := ob H
      refine awr_join ⟨[(0, .v (.c (.d false (.l (a0.map eTUsageRecord))))), (8, .v (.c (.d false (.l (a0.map eTUsageRecord))))), (9, tI ((a0.length : Nat) : Int)), (10, tI v1), (24, tB v4)], [], 0⟩ ?_ ?_
      · have H := Hj
        refine wk ?_
        refine g2 rfl rfl rfl (fun h => ?_) (fun h => ?_)
        · have H := bt h H
          refine wk ?_
          cases H
          exact weak_of ⟨rfl, rfl, rfl, rfl, rfl, rfl, rfl, rfl, rfl, rfl, trivial⟩ trivial
        · have H := bf h H
          refine wk ?_
          obtain ⟨r5, hr5, H⟩ := ob H
          refine awr_ng rfl rfl rfl rfl (ca rfl rfl rfl (iFindRecord_c hr5) trivial rfl rfl rfl rfl) ?_
          refine wk ?_
          cases H
          exact weak_of ⟨rfl, rfl, rfl, rfl, rfl, rfl, rfl, rfl, rfl, rfl, trivial⟩ trivial
      refine wk ?_
      refine awc_cond rfl (fun h => ?_) (fun h => ?_)
      · have H := bt h H
        refine wk ?_
        obtain ⟨r0, Hd, rfl⟩ := dnE H
        refine iq_r (fun hq => ?_)
        have H := Hd.trans (congrArg some hq)
        refine wk ?_
        cases H
        exact fin_ret (.cons (.tmp rfl) .nil) rfl rfl rfl
      · have H := bf h H
        refine wk ?_
        cases H
        refine iq_n ?_
        exact weak_of ⟨rfl, rfl, rfl, rfl, rfl, rfl, rfl, rfl, trivial⟩ trivial
    · have H := bf h H
      refine wk ?_
      obtain ⟨r0, Hd, rfl⟩ := dnE H
      refine iq_e (fun hq => ?_)
      have H := Hd.trans (congrArg some hq)
      refine wk ?_
      cases H
      exact fin_ret (.cons (.tmp rfl) .nil) rfl rfl rfl
def iIsValidBook_L1 (a0 : TOperatorBook) : Int → Option (Step (Int) (Bool))
  | v5 => bif ltB v5 ((a0.Claims.length : Nat) : Int) then (Option.bind (ix a0.Claims v5) fun x6 => bif !eqB x6.Network a0.Network then (dn (some false)) else (some (.next (WR (v5 + 1))))) else (dn (some true))
def iIsValidBook (a0 : TOperatorBook) : Option Bool :=
  Option.bind (iInRange a0.Network 0 3) fun r1 => Option.bind (bif !r1 then (some true) else (Option.bind (iAreValidRecords a0.Own) fun r3 => bif !r3 then (some true) else (Option.bind (iAreValidRecords a0.Claims) fun r4 => some (!r4)))) fun (v2 : Bool) => bif v2 then (some false) else (iter (iIsValidBook_L1 a0) FU 0)
theorem iIsValidBook_c {a0 : TOperatorBook} {r : Bool} (H : iIsValidBook a0 = some r) : Fn Tryd.prog 9 [.agg (eTOperatorBook a0)] [.c (.d (.b r))] := by
  refine fn_in Tryd.func9 rfl (by kernel_rfl) Tryd.ntmps9 rfl rfl rfl ?_
  refine wk ?_
  obtain ⟨r1, hr1, H⟩ := ob H
  refine awr_n rfl (ca rfl rfl rfl (iInRange_c hr1) trivial rfl rfl rfl rfl) ?_
  refine wk ?_
  obtain ⟨v2, Hj, H⟩ := ob H
  refine awr_join ⟨[(1, .v (.c (.p 0 0))), (20, tB v2)], [(0, .var 36 [.d false (.i .i64 a0.Network), .d false (.l (a0.Own.map eTUsageRecord)), .d false (.l (a0.Claims.map eTUsageRecord))])], 1⟩ ?_ ?_
  · have H := Hj
    refine wk ?_
    refine g2 rfl rfl rfl (fun h => ?_) (fun h => ?_)
    · have H := bt h H
      refine wk ?_
      cases H
      exact weak_of ⟨rfl, rfl, rfl, rfl, trivial⟩ ⟨rfl, ⟨rfl, rfl⟩, trivial⟩
    · have H := bf h H
      refine wk ?_
      obtain ⟨r3, hr3, H⟩ := ob H
      refine awr_ng rfl rfl rfl rfl (ca rfl rfl rfl (iAreValidRecords_c hr3) trivial rfl rfl rfl rfl) ?_
      refine wk ?_
      refine g2 rfl rfl rfl (fun h => ?_) (fun h => ?_)
      · have H := bt h H
        refine wk ?_
        cases H
        exact weak_of ⟨rfl, rfl, rfl, rfl, trivial⟩ ⟨rfl, ⟨rfl, rfl⟩, trivial⟩
      · have H := bf h H
        refine wk ?_
        obtain ⟨r4, hr4, H⟩ := ob H
        refine awr_ng rfl rfl rfl rfl (ca rfl rfl rfl (iAreValidRecords_c hr4) trivial rfl rfl rfl rfl) ?_
        refine wk ?_
        cases H
        exact weak_of ⟨rfl, rfl, rfl, rfl, trivial⟩ ⟨rfl, ⟨rfl, rfl⟩, trivial⟩
  refine wk ?_
  refine awc_cond rfl (fun h => ?_) (fun h => ?_)
  · have H := bt h H
    refine wk ?_
    cases H
    exact fin_ret (.cons (.tmp rfl) .nil) rfl rfl rfl
  · have H := bf h H
    refine wk ?_
    refine awc_iter (fun (q : Int) => ⟨[(1, .v (.c (.p 0 0))), (22, .v (.c (.d false (.l (a0.Claims.map eTUsageRecord))))), (23, tI ((a0.Claims.length : Nat) : Int)), (24, tI q)], [(0, .var 36 [.d false (.i .i64 a0.Network), .d false (.l (a0.Own.map eTUsageRecord)), .d false (.l (a0.Claims.map eTUsageRecord))])], 1⟩) H (weak_of ⟨rfl, rfl, rfl, rfl, rfl, rfl, rfl, rfl, trivial⟩ ⟨rfl, ⟨rfl, rfl⟩, trivial⟩) ?_
    rintro v5 o H
    try dsimp only
    refine wk ?_
    refine awc_cond rfl (fun h => ?_) (fun h => ?_)
    · have H := bt h H
      refine wk ?_
      obtain ⟨x6, hx6, H⟩ := ob H
      refine awr_n rfl (xdT (enc := eTUsageRecord) hx6 (fun _ => rfl) rfl rfl rfl) ?_
      refine wk ?_
      refine awc_cond rfl (fun h => ?_) (fun h => ?_)
      · have H := bt h H
        refine wk ?_
        obtain ⟨r0, Hd, rfl⟩ := dnE H
        refine iq_r (fun hq => ?_)
        have H := Hd.trans (congrArg some hq)
        refine wk ?_
        cases H
        exact fin_ret (.cons (.tmp rfl) .nil) rfl rfl rfl
      · have H := bf h H
        refine wk ?_
        cases H
        refine iq_n ?_
        exact weak_of ⟨rfl, rfl, rfl, rfl, rfl, rfl, rfl, rfl, trivial⟩ ⟨rfl, ⟨rfl, rfl⟩, trivial⟩
    · have H := bf h H
      refine wk ?_
      obtain ⟨r0, Hd, rfl⟩ := dnE H
      refine iq_e (fun hq => ?_)
      have H := Hd.trans (congrArg some hq)
      refine wk ?_
      cases H
      exact fin_ret (.cons (.tmp rfl) .nil) rfl rfl rfl
def iIsValidAgreement (a0 : TRoamingAgreement) : Option Bool :=
  Option.bind (iInRange a0.Home 0 3) fun r1 => Option.bind (bif r1 then (Option.bind (iInRange a0.Visited 0 3) fun r3 => bif r3 then (bif !eqB a0.Home a0.Visited then (Option.bind (iInRange a0.Price 0 1000) fun r4 => bif r4 then (Option.bind (iInRange a0.Cap 0 1000000000000) fun r5 => some r5) else (some false)) else (some false)) else (some false)) else (some false)) fun (v2 : Bool) => some v2
theorem iIsValidAgreement_c {a0 : TRoamingAgreement} {r : Bool} (H : iIsValidAgreement a0 = some r) : Fn Tryd.prog 20 [.agg (eTRoamingAgreement a0)] [.c (.d (.b r))] := by
  refine fn_in Tryd.func20 rfl (by kernel_rfl) Tryd.ntmps20 rfl rfl rfl ?_
  refine wk ?_
  obtain ⟨r1, hr1, H⟩ := ob H
  refine awr_n rfl (ca rfl rfl rfl (iInRange_c hr1) trivial rfl rfl rfl rfl) ?_
  refine wk ?_
  obtain ⟨v2, Hj, H⟩ := ob H
  refine awr_join ⟨[(2, tB v2)], [], 0⟩ ?_ ?_
  · have H := Hj
    refine wk ?_
    refine g2 rfl rfl rfl (fun h => ?_) (fun h => ?_)
    · have H := bt h H
      refine wk ?_
      obtain ⟨r3, hr3, H⟩ := ob H
      refine awr_ng rfl rfl rfl rfl (ca rfl rfl rfl (iInRange_c hr3) trivial rfl rfl rfl rfl) ?_
      refine wk ?_
      refine g2 rfl rfl rfl (fun h => ?_) (fun h => ?_)
      · have H := bt h H
        refine wk ?_
        refine g2 rfl rfl rfl (fun h => ?_) (fun h => ?_)
        · have H := bt h H
          refine wk ?_
          obtain ⟨r4, hr4, H⟩ := ob H
          refine awr_ng rfl rfl rfl rfl (ca rfl rfl rfl (iInRange_c hr4) trivial rfl rfl rfl rfl) ?_
          refine wk ?_
          refine g2 rfl rfl rfl (fun h => ?_) (fun h => ?_)
          · have H := bt h H
            refine wk ?_
            obtain ⟨r5, hr5, H⟩ := ob H
            refine awr_ng rfl rfl rfl rfl (ca rfl rfl rfl (iInRange_c hr5) trivial rfl rfl rfl rfl) ?_
            refine wk ?_
            cases H
            exact weak_of ⟨rfl, rfl, trivial⟩ trivial
          · have H := bf h H
            refine wk ?_
            cases H
            exact weak_of ⟨rfl, rfl, trivial⟩ trivial
        · have H := bf h H
          refine wk ?_
          cases H
          exact weak_of ⟨rfl, rfl, trivial⟩ trivial
      · have H := bf h H
        refine wk ?_
        cases H
        exact weak_of ⟨rfl, rfl, trivial⟩ trivial
    · have H := bf h H
      refine wk ?_
      cases H
      exact weak_of ⟨rfl, rfl, trivial⟩ trivial
  refine wk ?_
  cases H
  exact fin_ret (.cons (.tmp rfl) .nil) rfl rfl rfl
def iMin (a0 : Int) (a1 : Int) : Option Int :=
  bif ltB a1 a0 then (some a1) else (some a0)
theorem iMin_c {a0 : Int} {a1 : Int} {r : Int} (H : iMin a0 a1 = some r) : Fn Tryd.prog 21 [aI a0, aI a1] [.c (.d (.i .i64 r))] := by
  refine fn_in Tryd.func21 rfl (by kernel_rfl) Tryd.ntmps21 rfl rfl rfl ?_
  refine wk ?_
  refine awc_cond rfl (fun h => ?_) (fun h => ?_)
  · have H := bt h H
    refine wk ?_
    cases H
    exact fin_ret (.cons (.tmp rfl) .nil) rfl rfl rfl
  · have H := bf h H
    refine wk ?_
    cases H
    exact fin_ret (.cons (.tmp rfl) .nil) rfl rfl rfl
def iAgreedBytes_L1 (a0 : List TUsageRecord) (a1 : List TUsageRecord) (a2 : Int) : (Int × Int) → Option (Step (Int × Int) (Int))
  | (v1, v2) => bif ltB v2 ((a1.length : Nat) : Int) then (Option.bind (ix a1 v2) fun x11 => Option.bind (bif !eqB x11.Network a2 then (some true) else (Option.bind (iFindRecord a1 x11) fun r13 => some (!eqB r13 v2))) fun (v12 : Bool) => bif v12 then (some (.next (v1, WR (v2 + 1)))) else (Option.bind (iFindRecord a0 x11) fun r14 => Option.bind (bif leB 0 r14 then (Option.bind (ix a0 r14) fun x16 => Option.bind (iMin x11.Bytes x16.Bytes) fun r17 => some (WR (v1 + r17))) else (some v1)) fun (v15 : Int) => some (.next (v15, WR (v2 + 1))))) else (some (.done v1))
def iAgreedBytes (a0 : List TUsageRecord) (a1 : List TUsageRecord) (a2 : Int) : Option Int :=
  Option.bind (iter (iAgreedBytes_L1 a0 a1 a2) FU (0, 0)) fun (v10 : Int) => some v10
theorem iAgreedBytes_c {a0 : List TUsageRecord} {a1 : List TUsageRecord} {a2 : Int} {r : Int} (H : iAgreedBytes a0 a1 a2 = some r) : Fn Tryd.prog 22 [aL (a0.map eTUsageRecord), aL (a1.map eTUsageRecord), aI a2] [.c (.d (.i .i64 r))] := by
  refine fn_in Tryd.func22 rfl (by kernel_rfl) Tryd.ntmps22 rfl rfl rfl ?_
  refine wkd ?_
  obtain ⟨v10, Hj, H⟩ := ob H
  refine awc_jblk ⟨[(7, tI v10)], [], 0⟩ ?_ ?_
  · refine wkd ?_
    refine awc_iter (fun (q : Int × Int) => ⟨[(0, .v (.c (.d false (.l (a0.map eTUsageRecord))))), (1, .v (.c (.d false (.l (a1.map eTUsageRecord))))), (2, tI a2), (7, tI q.1), (11, .v (.c (.d false (.l (a1.map eTUsageRecord))))), (12, tI ((a1.length : Nat) : Int)), (13, tI q.2)], [], 0⟩) Hj (weak_of ⟨rfl, rfl, rfl, rfl, rfl, rfl, rfl, rfl, rfl, rfl, rfl, rfl, rfl, rfl, trivial⟩ trivial) ?_
    rintro ⟨v1, v2⟩ o H
    try dsimp only
    refine wkd ?_
    refine awc_cond rfl (fun h => ?_) (fun h => ?_)
    · have H := bt h H
      refine wkd ?_
      obtain ⟨x11, hx11, H⟩ := ob H
      refine awr_n rfl (xdT (enc := eTUsageRecord) hx11 (fun _ => rfl) rfl rfl rfl) ?_
      refine wkd ?_
      obtain ⟨v12, Hj, H⟩ := ob H
      refine awr_join ⟨[(0, .v (.c (.d false (.l (a0.map eTUsageRecord))))), (1, .v (.c (.d false (.l (a1.map eTUsageRecord))))), (2, tI a2), (7, tI v1), (9, .v (.c (.p 0 0))), (11, .v (.c (.d false (.l (a1.map eTUsageRecord))))), (12, tI ((a1.length : Nat) : Int)), (13, tI v2), (28, tB v12)], [(0, .var 48 [.d false (.i .i64 x11.Network), .d false (.i .i64 x11.SessionID), .d false (.i .i64 x11.Seq), .d false (.i .i64 x11.Bytes)])], 1⟩ ?_ ?_
      · have H := Hj
        refine wkd ?_
        refine g2 rfl rfl rfl (fun h => ?_) (fun h => ?_)
        · have H := bt h H
          refine wkd ?_
          cases H
          exact weak_of ⟨rfl, rfl, rfl, rfl, rfl, rfl, rfl, rfl, rfl, rfl, rfl, rfl, rfl, rfl, rfl, rfl, rfl, rfl, trivial⟩ ⟨rfl, ⟨rfl, rfl⟩, trivial⟩
        · have H := bf h H
          refine wkd ?_
          obtain ⟨r13, hr13, H⟩ := ob H
          refine awr_ng rfl rfl rfl rfl (ca rfl rfl rfl (iFindRecord_c hr13) trivial rfl rfl rfl rfl) ?_
          refine wkd ?_
          cases H
          exact weak_of ⟨rfl, rfl, rfl, rfl, rfl, rfl, rfl, rfl, rfl, rfl, rfl, rfl, rfl, rfl, rfl, rfl, rfl, rfl, trivial⟩ ⟨rfl, ⟨rfl, rfl⟩, trivial⟩
      refine wkd ?_
      refine awc_cond rfl (fun h => ?_) (fun h => ?_)
      · have H := bt h H
        refine wkd ?_
        cases H
        refine iq_n ?_
        exact weak_of ⟨rfl, rfl, rfl, rfl, rfl, rfl, rfl, rfl, rfl, rfl, rfl, rfl, rfl, rfl, trivial⟩ trivial
      · have H := bf h H
        refine wkd ?_
        obtain ⟨r14, hr14, H⟩ := ob H
        refine awr_n rfl (ca rfl rfl rfl (iFindRecord_c hr14) trivial rfl rfl rfl rfl) ?_
        refine wkd ?_
        obtain ⟨v15, Hj, H⟩ := ob H
        refine awc_join ⟨[(0, .v (.c (.d false (.l (a0.map eTUsageRecord))))), (1, .v (.c (.d false (.l (a1.map eTUsageRecord))))), (2, tI a2), (7, tI v15), (11, .v (.c (.d false (.l (a1.map eTUsageRecord))))), (12, tI ((a1.length : Nat) : Int)), (13, tI v2)], [], 0⟩ ?_ ?_
        · have H := Hj
          refine wkd ?_
          refine awc_cond rfl (fun h => ?_) (fun h => ?_)
          · have H := bt h H
            refine wkd ?_
            obtain ⟨x16, hx16, H⟩ := ob H
            refine dr_n rfl (xdT (enc := eTUsageRecord) hx16 (fun _ => rfl) rfl rfl rfl) ?_
            refine wkd ?_
            obtain ⟨r17, hr17, H⟩ := ob H
            refine dr_n rfl (ca rfl rfl rfl (iMin_c hr17) trivial rfl rfl rfl rfl) ?_
            refine wkd ?_
            cases H
            exact weak_of ⟨rfl, rfl, rfl, rfl, rfl, rfl, rfl, rfl, rfl, rfl, rfl, rfl, rfl, rfl, trivial⟩ trivial
          · have H := bf h H
            refine wkd ?_
            cases H
            exact weak_of ⟨rfl, rfl, rfl, rfl, rfl, rfl, rfl, rfl, rfl, rfl, rfl, rfl, rfl, rfl, trivial⟩ trivial
        refine wkd ?_
        cases H
        refine iq_n ?_
        exact weak_of ⟨rfl, rfl, rfl, rfl, rfl, rfl, rfl, rfl, rfl, rfl, rfl, rfl, rfl, rfl, trivial⟩ trivial
    · have H := bf h H
      refine wkd ?_
      cases H
      refine iq_e (fun hq => ?_)
      cases hq
      refine wkd ?_
      exact weak_of ⟨rfl, rfl, trivial⟩ trivial
  refine wkd ?_
  cases H
  exact fin_ret (.cons (.tmp rfl) .nil) rfl rfl rfl
def iAmountOwed (a0 : TRoamingAgreement) (a1 : List TUsageRecord) (a2 : List TUsageRecord) : Option Int :=
  Option.bind (iIsValidAgreement a0) fun r1 => Option.bind (bif !r1 then (some true) else (Option.bind (iAreValidRecords a1) fun r3 => bif !r3 then (some true) else (Option.bind (iAreValidRecords a2) fun r4 => some (!r4)))) fun (v2 : Bool) => bif v2 then (some 0) else (Option.bind (iAgreedBytes a1 a2 a0.Visited) fun r5 => Option.bind (iMin a0.Cap (WR (a0.Price * r5))) fun r6 => some r6)
theorem iAmountOwed_c {a0 : TRoamingAgreement} {a1 : List TUsageRecord} {a2 : List TUsageRecord} {r : Int} (H : iAmountOwed a0 a1 a2 = some r) : Fn Tryd.prog 10 [.agg (eTRoamingAgreement a0), aL (a1.map eTUsageRecord), aL (a2.map eTUsageRecord)] [.c (.d (.i .i64 r))] := by
  refine fn_in Tryd.func10 rfl (by kernel_rfl) Tryd.ntmps10 rfl rfl rfl ?_
  refine wkd ?_
  obtain ⟨r1, hr1, H⟩ := ob H
  refine awr_n rfl (ca rfl rfl rfl (iIsValidAgreement_c hr1) trivial rfl rfl rfl rfl) ?_
  refine wkd ?_
  obtain ⟨v2, Hj, H⟩ := ob H
  refine awr_join ⟨[(1, .v (.c (.d false (.l (a1.map eTUsageRecord))))), (2, .v (.c (.d false (.l (a2.map eTUsageRecord))))), (3, .v (.c (.p 0 0))), (19, tB v2)], [(0, .var 38 [.d false (.i .i64 a0.Home), .d false (.i .i64 a0.Visited), .d false (.i .i64 a0.Price), .d false (.i .i64 a0.Cap)])], 1⟩ ?_ ?_
  · have H := Hj
    refine wkd ?_
    refine g2 rfl rfl rfl (fun h => ?_) (fun h => ?_)
    · have H := bt h H
      refine wkd ?_
      cases H
      exact weak_of ⟨rfl, rfl, rfl, rfl, rfl, rfl, rfl, rfl, trivial⟩ ⟨rfl, ⟨rfl, rfl⟩, trivial⟩
    · have H := bf h H
      refine wkd ?_
      obtain ⟨r3, hr3, H⟩ := ob H
      refine awr_ng rfl rfl rfl rfl (ca rfl rfl rfl (iAreValidRecords_c hr3) trivial rfl rfl rfl rfl) ?_
      refine wkd ?_
      refine g2 rfl rfl rfl (fun h => ?_) (fun h => ?_)
      · have H := bt h H
        refine wkd ?_
        cases H
        exact weak_of ⟨rfl, rfl, rfl, rfl, rfl, rfl, rfl, rfl, trivial⟩ ⟨rfl, ⟨rfl, rfl⟩, trivial⟩
      · have H := bf h H
        refine wkd ?_
        obtain ⟨r4, hr4, H⟩ := ob H
        refine awr_ng rfl rfl rfl rfl (ca rfl rfl rfl (iAreValidRecords_c hr4) trivial rfl rfl rfl rfl) ?_
        refine wkd ?_
        cases H
        exact weak_of ⟨rfl, rfl, rfl, rfl, rfl, rfl, rfl, rfl, trivial⟩ ⟨rfl, ⟨rfl, rfl⟩, trivial⟩
  refine wkd ?_
  refine awc_cond rfl (fun h => ?_) (fun h => ?_)
  · have H := bt h H
    refine wkd ?_
    cases H
    exact fin_ret (.cons (.tmp rfl) .nil) rfl rfl rfl
  · have H := bf h H
    refine wkd ?_
    obtain ⟨r5, hr5, H⟩ := ob H
    refine dr_n rfl (ca rfl rfl rfl (iAgreedBytes_c hr5) trivial rfl rfl rfl rfl) ?_
    refine wkd ?_
    obtain ⟨r6, hr6, H⟩ := ob H
    refine dr_n rfl (ca rfl rfl rfl (iMin_c hr6) trivial rfl rfl rfl rfl) ?_
    refine wkd ?_
    cases H
    exact fin_ret (.cons (.tmp rfl) .nil) rfl rfl rfl
def iSettlement_L1 (a0 : List TOperatorBook) (a1 : List TRoamingAgreement) : (Int × List TStatementLine) → Option (Step (Int × List TStatementLine) (List TStatementLine))
  | (v1, v2) => bif ltB v1 ((a1.length : Nat) : Int) then (Option.bind (ix a1 v1) fun x16 => bif leB 12 ((v2.length : Nat) : Int) then (some (.done v2)) else (Option.bind (iFindBook a0 x16.Home) fun r17 => Option.bind (iFindBook a0 x16.Visited) fun r18 => Option.bind (bif ltB r17 0 then (some true) else (bif ltB r18 0 then (some true) else (Option.bind (ix a0 r17) fun x20 => Option.bind (iIsValidBook x20) fun r21 => bif !r21 then (some true) else (Option.bind (ix a0 r18) fun x22 => Option.bind (iIsValidBook x22) fun r23 => some (!r23))))) fun (v19 : Bool) => bif v19 then (some (.next (WR (v1 + 1), v2))) else (Option.bind (ix a0 r17) fun x24 => Option.bind (ix a0 r18) fun x25 => Option.bind (iAmountOwed x16 x24.Own x25.Claims) fun r26 => Option.bind (bif ltB 0 r26 then (bif apOk 24 (v2 ++ [(⟨x16.Home, x16.Visited, r26⟩ : TStatementLine)]).length then (some (v2 ++ [(⟨x16.Home, x16.Visited, r26⟩ : TStatementLine)])) else none) else (some v2)) fun (v27 : List TStatementLine) => some (.next (WR (v1 + 1), v27))))) else (some (.done v2))
def iSettlement (a0 : List TOperatorBook) (a1 : List TRoamingAgreement) : Option (List TStatementLine) :=
  Option.bind (iter (iSettlement_L1 a0 a1) FU (0, ([] : List TStatementLine))) fun (v15 : List TStatementLine) => some v15
theorem iSettlement_c {a0 : List TOperatorBook} {a1 : List TRoamingAgreement} {r : List TStatementLine} (H : iSettlement a0 a1 = some r) : Fn Tryd.prog 6 [aL (a0.map eTOperatorBook), aL (a1.map eTRoamingAgreement)] [.c (.own 32 3 (r.map eTStatementLine) r.length)] := by
  refine fn_in Tryd.func6 rfl (by kernel_rfl) Tryd.ntmps6 rfl rfl rfl ?_
  refine wkd ?_
  obtain ⟨v15, Hj, H⟩ := ob H
  refine awc_jblk ⟨[(5, .v (.c (.w 0 v15.length)))], [(0, .row 32 3 (v15.map eTStatementLine) true true)], 1⟩ ?_ ?_
  · refine wkd ?_
    refine awc_iter (fun (q : Int × List TStatementLine) => ⟨[(0, .v (.c (.d false (.l (a0.map eTOperatorBook))))), (5, .v (.c (.w 0 q.2.length))), (12, .v (.c (.d false (.l (a1.map eTRoamingAgreement))))), (13, tI ((a1.length : Nat) : Int)), (14, tI q.1)], [(0, .row 32 3 (q.2.map eTStatementLine) true true)], 1⟩) Hj (weak_of ⟨rfl, rfl, wn rfl (by first | rfl | simp), rfl, rfl, rfl, rfl, rfl, rfl, rfl, trivial⟩ ⟨rfl, ⟨rfl, rfl⟩, trivial⟩) ?_
    rintro ⟨v1, v2⟩ o H
    try dsimp only
    refine wkd ?_
    refine awc_cond rfl (fun h => ?_) (fun h => ?_)
    · have H := bt h H
      refine wkd ?_
      obtain ⟨x16, hx16, H⟩ := ob H
      refine awr_n rfl (xdT (enc := eTRoamingAgreement) hx16 (fun _ => rfl) rfl rfl rfl) ?_
      refine wkd ?_
      refine awc_cond rfl (fun h => ?_) (fun h => ?_)
      · have H := bt h H
        refine wkd ?_
        cases H
        refine iq_e (fun hq => ?_)
        cases hq
        refine wkd ?_
        exact weak_of ⟨wn rfl (by first | rfl | simp), rfl, trivial⟩ ⟨rfl, ⟨rfl, rfl⟩, trivial⟩
      · have H := bf h H
        refine wkd ?_
        obtain ⟨r17, hr17, H⟩ := ob H
        refine awr_n rfl (ca rfl rfl rfl (iFindBook_c hr17) trivial rfl rfl rfl rfl) ?_
        refine wkd ?_
        obtain ⟨r18, hr18, H⟩ := ob H
        refine awr_n rfl (ca rfl rfl rfl (iFindBook_c hr18) trivial rfl rfl rfl rfl) ?_
        refine wkd ?_
        obtain ⟨v19, Hj, H⟩ := ob H
        refine awr_join ⟨[(0, .v (.c (.d false (.l (a0.map eTOperatorBook))))), (5, .v (.c (.w 0 v2.length))), (7, .v (.c (.p 1 0))), (8, tI r17), (9, tI r18), (12, .v (.c (.d false (.l (a1.map eTRoamingAgreement))))), (13, tI ((a1.length : Nat) : Int)), (14, tI v1), (50, tB v19)], [(0, .row 32 3 (v2.map eTStatementLine) true true), (1, .var 38 [.d false (.i .i64 x16.Home), .d false (.i .i64 x16.Visited), .d false (.i .i64 x16.Price), .d false (.i .i64 x16.Cap)])], 2⟩ ?_ ?_
        · have H := Hj
          refine wkd ?_
          refine g2 rfl rfl rfl (fun h => ?_) (fun h => ?_)
          · have H := bt h H
            refine wkd ?_
            cases H
            exact weak_of ⟨rfl, rfl, wn rfl (by first | rfl | simp), rfl, rfl, rfl, rfl, rfl, rfl, rfl, rfl, rfl, rfl, rfl, rfl, rfl, rfl, rfl, trivial⟩ ⟨rfl, ⟨rfl, rfl⟩, rfl, ⟨rfl, rfl⟩, trivial⟩
          · have H := bf h H
            refine wkd ?_
            refine g2 rfl rfl rfl (fun h => ?_) (fun h => ?_)
            · have H := bt h H
              refine wkd ?_
              cases H
              exact weak_of ⟨rfl, rfl, wn rfl (by first | rfl | simp), rfl, rfl, rfl, rfl, rfl, rfl, rfl, rfl, rfl, rfl, rfl, rfl, rfl, rfl, rfl, trivial⟩ ⟨rfl, ⟨rfl, rfl⟩, rfl, ⟨rfl, rfl⟩, trivial⟩
            · have H := bf h H
              refine wkd ?_
              obtain ⟨x20, hx20, H⟩ := ob H
              refine awr_ng rfl rfl rfl rfl (xdT (enc := eTOperatorBook) hx20 (fun _ => rfl) rfl rfl rfl) ?_
              refine wkd ?_
              obtain ⟨r21, hr21, H⟩ := ob H
              refine awr_ng rfl rfl rfl rfl (ca rfl rfl rfl (iIsValidBook_c hr21) trivial rfl rfl rfl rfl) ?_
              refine wkd ?_
              refine g2 rfl rfl rfl (fun h => ?_) (fun h => ?_)
              · have H := bt h H
                refine wkd ?_
                cases H
                exact weak_of ⟨rfl, rfl, wn rfl (by first | rfl | simp), rfl, rfl, rfl, rfl, rfl, rfl, rfl, rfl, rfl, rfl, rfl, rfl, rfl, rfl, rfl, trivial⟩ ⟨rfl, ⟨rfl, rfl⟩, rfl, ⟨rfl, rfl⟩, trivial⟩
              · have H := bf h H
                refine wkd ?_
                obtain ⟨x22, hx22, H⟩ := ob H
                refine awr_ng rfl rfl rfl rfl (xdT (enc := eTOperatorBook) hx22 (fun _ => rfl) rfl rfl rfl) ?_
                refine wkd ?_
                obtain ⟨r23, hr23, H⟩ := ob H
                refine awr_ng rfl rfl rfl rfl (ca rfl rfl rfl (iIsValidBook_c hr23) trivial rfl rfl rfl rfl) ?_
                refine wkd ?_
                cases H
                exact weak_of ⟨rfl, rfl, wn rfl (by first | rfl | simp), rfl, rfl, rfl, rfl, rfl, rfl, rfl, rfl, rfl, rfl, rfl, rfl, rfl, rfl, rfl, trivial⟩ ⟨rfl, ⟨rfl, rfl⟩, rfl, ⟨rfl, rfl⟩, trivial⟩
        refine wkd ?_
        refine awc_cond rfl (fun h => ?_) (fun h => ?_)
        · have H := bt h H
          refine wkd ?_
          cases H
          refine iq_n ?_
          exact weak_of ⟨rfl, rfl, wn rfl (by first | rfl | simp), rfl, rfl, rfl, rfl, rfl, rfl, rfl, trivial⟩ ⟨rfl, ⟨rfl, rfl⟩, trivial⟩
        · have H := bf h H
          refine wkd ?_
          obtain ⟨x24, hx24, H⟩ := ob H
          refine dr_n rfl (xdT (enc := eTOperatorBook) hx24 (fun _ => rfl) rfl rfl rfl) ?_
          refine wkd ?_
          obtain ⟨x25, hx25, H⟩ := ob H
          refine dr_n rfl (xdT (enc := eTOperatorBook) hx25 (fun _ => rfl) rfl rfl rfl) ?_
          refine wkd ?_
          obtain ⟨r26, hr26, H⟩ := ob H
          refine dr_n rfl (ca rfl rfl rfl (iAmountOwed_c hr26) trivial rfl rfl rfl rfl) ?_
          refine wkd ?_
          obtain ⟨v27, Hj, H⟩ := ob H
          refine awc_join ⟨[(0, .v (.c (.d false (.l (a0.map eTOperatorBook))))), (5, .v (.c (.w 0 v27.length))), (12, .v (.c (.d false (.l (a1.map eTRoamingAgreement))))), (13, tI ((a1.length : Nat) : Int)), (14, tI v1)], [(0, .row 32 3 (v27.map eTStatementLine) true true)], 1⟩ ?_ ?_
          · have H := Hj
            refine wkd ?_
            refine awc_cond rfl (fun h => ?_) (fun h => ?_)
            · have H := bt h H
              refine wkd ?_
              obtain ⟨h, H⟩ := rq H
              refine awr_step rfl (apT (enc := eTStatementLine) (ys := v2) (zs := [(⟨x16.Home, x16.Visited, r26⟩ : TStatementLine)]) h rfl (fun _ => rfl) (by first | rfl | simp) (.w rfl (by first | rfl | exact lm _ | simp)) rfl rfl rfl rfl rfl rfl rfl rfl) ?_
              refine wkd ?_
              cases H
              exact weak_of ⟨rfl, rfl, wn rfl (by first | rfl | simp), rfl, rfl, rfl, rfl, rfl, rfl, rfl, trivial⟩ ⟨rfl, ⟨rfl, rfl⟩, trivial⟩
            · have H := bf h H
              refine wkd ?_
              cases H
              exact weak_of ⟨rfl, rfl, wn rfl (by first | rfl | simp), rfl, rfl, rfl, rfl, rfl, rfl, rfl, trivial⟩ ⟨rfl, ⟨rfl, rfl⟩, trivial⟩
          refine wkd ?_
          cases H
          refine iq_n ?_
          exact weak_of ⟨rfl, rfl, wn rfl (by first | rfl | simp), rfl, rfl, rfl, rfl, rfl, rfl, rfl, trivial⟩ ⟨rfl, ⟨rfl, rfl⟩, trivial⟩
    · have H := bf h H
      refine wkd ?_
      cases H
      refine iq_e (fun hq => ?_)
      cases hq
      refine wkd ?_
      exact weak_of ⟨wn rfl (by first | rfl | simp), rfl, trivial⟩ ⟨rfl, ⟨rfl, rfl⟩, trivial⟩
  refine wkd ?_
  cases H
  exact fin_ret (.cons (.tmp rfl) .nil) rfl rfl (by first | rfl | simp)
def iFormatInt (a0 : Int) : Option ByteArray :=
  Option.bind (gItoa a0) fun r1 => some r1
theorem iFormatInt_c {a0 : Int} {r : ByteArray} (H : iFormatInt a0 = some r) : Fn Tryd.prog 23 [aI a0] [.c (.d (.str r))] := by
  refine fn_in Tryd.func23 rfl (by kernel_rfl) Tryd.ntmps23 rfl rfl rfl ?_
  refine wk ?_
  obtain ⟨r1, hr1, H⟩ := ob H
  refine awr_n rfl (ca rfl rfl rfl (gItoa_c hr1) trivial rfl rfl rfl rfl) ?_
  refine wk ?_
  cases H
  exact fin_ret (.cons (.tmp rfl) .nil) rfl rfl rfl
def iFormatStatement_L1 (a0 : List TStatementLine) : (Int × List ByteArray) → Option (Step (Int × List ByteArray) (List ByteArray))
  | (v1, v2) => bif ltB v1 ((a0.length : Nat) : Int) then (Option.bind (ix a0 v1) fun x9 => Option.bind (iFormatInt x9.Payer) fun r10 => bif saOk r10 (⟨#[62]⟩ : ByteArray) then (Option.bind (iFormatInt x9.Payee) fun r11 => bif saOk (r10 ++ (⟨#[62]⟩ : ByteArray)) r11 then (bif saOk ((r10 ++ (⟨#[62]⟩ : ByteArray)) ++ r11) (⟨#[58]⟩ : ByteArray) then (Option.bind (iFormatInt x9.Amount) fun r12 => bif saOk (((r10 ++ (⟨#[62]⟩ : ByteArray)) ++ r11) ++ (⟨#[58]⟩ : ByteArray)) r12 then (Option.bind (ix v2 v1) fun x13 => some (.next (WR (v1 + 1), (v2.set (v1).toNat ((((r10 ++ (⟨#[62]⟩ : ByteArray)) ++ r11) ++ (⟨#[58]⟩ : ByteArray)) ++ r12))))) else none) else none) else none) else none) else (some (.done v2))
def iFormatStatement (a0 : List TStatementLine) : Option ByteArray :=
  bif eqB ((a0.length : Nat) : Int) 0 then (some ⟨#[45]⟩) else (bif mkOk 16 ((a0.length : Nat) : Int) ((a0.length : Nat) : Int) then (Option.bind (iter (iFormatStatement_L1 a0) FU (0, (List.replicate (((a0.length : Nat) : Int)).toNat (⟨#[]⟩ : ByteArray)))) fun (v8 : List ByteArray) => Option.bind (gJoin v8 ⟨#[32]⟩) fun r14 => some r14) else none)
theorem iFormatStatement_c {a0 : List TStatementLine} {r : ByteArray} (H : iFormatStatement a0 = some r) : Fn Tryd.prog 11 [aL (a0.map eTStatementLine)] [.c (.d (.str r))] := by
  refine fn_in Tryd.func11 rfl (by kernel_rfl) Tryd.ntmps11 rfl rfl rfl ?_
  refine wkz ?_
  refine awc_cond rfl (fun h => ?_) (fun h => ?_)
  · have H := bt h H
    refine wkz ?_
    cases H
    exact fin_ret (.cons (.tmp rfl) .nil) rfl rfl rfl
  · have H := bf h H
    refine wkz ?_
    obtain ⟨h, H⟩ := rq H
    refine awr_n rfl (mkT (enc := eS) (za := (⟨#[]⟩ : ByteArray)) h (by rfl) rfl rfl rfl rfl) ?_
    refine wkz ?_
    obtain ⟨v8, Hj, H⟩ := ob H
    refine awc_jblk ⟨[(3, .v (.c (.w 0 v8.length)))], [(0, .row 9 1 (v8.map eS) true true)], 1⟩ ?_ ?_
    · refine wkz ?_
      refine awc_iter (fun (q : Int × List ByteArray) => ⟨[(3, .v (.c (.w 0 q.2.length))), (12, .v (.c (.d false (.l (a0.map eTStatementLine))))), (13, tI ((a0.length : Nat) : Int)), (14, tI q.1)], [(0, .row 9 1 (q.2.map eS) true true)], 1⟩) Hj (weak_of ⟨wn rfl (by first | rfl | simp), rfl, rfl, rfl, rfl, rfl, rfl, rfl, trivial⟩ ⟨rfl, ⟨rfl, rfl⟩, trivial⟩) ?_
      rintro ⟨v1, v2⟩ o H
      try dsimp only
      refine wkz ?_
      refine awc_cond rfl (fun h => ?_) (fun h => ?_)
      · have H := bt h H
        refine wkz ?_
        obtain ⟨x9, hx9, H⟩ := ob H
        refine awr_n rfl (xdT (enc := eTStatementLine) hx9 (fun _ => rfl) rfl rfl rfl) ?_
        refine wkz ?_
        refine awc_dz [0, 1, 2, 3, 4, 5, 6, 7, 8, 9, 10, 11, 12, 13, 14, 15, 16] Try.follows (by kernel_rfl) (by kernel_rfl) rfl ?_
        refine wkz ?_
        obtain ⟨r10, hr10, H⟩ := ob H
        refine dz_n rfl (ca rfl rfl rfl (iFormatInt_c hr10) trivial rfl rfl rfl rfl) ?_
        refine wkz ?_
        obtain ⟨h, H⟩ := rq H
        refine dz_n rfl (saT h rfl rfl rfl) ?_
        refine wkz ?_
        obtain ⟨r11, hr11, H⟩ := ob H
        refine dz_n rfl (ca rfl rfl rfl (iFormatInt_c hr11) trivial rfl rfl rfl rfl) ?_
        refine wkz ?_
        obtain ⟨h, H⟩ := rq H
        refine dz_n rfl (saT h rfl rfl rfl) ?_
        refine wkz ?_
        obtain ⟨h, H⟩ := rq H
        refine dz_n rfl (saT h rfl rfl rfl) ?_
        refine wkz ?_
        obtain ⟨r12, hr12, H⟩ := ob H
        refine dz_n rfl (ca rfl rfl rfl (iFormatInt_c hr12) trivial rfl rfl rfl rfl) ?_
        refine wkz ?_
        obtain ⟨h, H⟩ := rq H
        refine dz_n rfl (saT h rfl rfl rfl) ?_
        refine wkz ?_
        obtain ⟨x13, hx13, H⟩ := ob H
        refine dz_n rfl (xwT hx13 (by first | rfl | simp) rfl rfl rfl) ?_
        refine wkz ?_
        refine dz_bar (by kernel_rfl) rfl (by kernel_rfl) weak_id (bo_n rfl (soT (enc := eS) (a' := (((r10 ++ (⟨#[62]⟩ : ByteArray)) ++ r11) ++ (⟨#[58]⟩ : ByteArray)) ++ r12) hx13 rfl rfl rfl rfl rfl rfl rfl)) weak_id rfl ?_
        refine wkz ?_
        cases H
        refine iq_n ?_
        exact weak_of ⟨wn rfl (by first | rfl | simp), rfl, rfl, rfl, rfl, rfl, rfl, rfl, trivial⟩ ⟨rfl, ⟨rfl, rfl⟩, trivial⟩
      · have H := bf h H
        refine wkz ?_
        cases H
        refine iq_e (fun hq => ?_)
        cases hq
        refine wkz ?_
        exact weak_of ⟨wn rfl (by first | rfl | simp), rfl, trivial⟩ ⟨rfl, ⟨rfl, rfl⟩, trivial⟩
    refine wkz ?_
    obtain ⟨r14, hr14, H⟩ := ob H
    refine awr_n rfl (ca rfl rfl rfl (gJoin_c hr14) ⟨by first | rfl | exact lm _, trivial⟩ rfl rfl rfl rfl) ?_
    refine wkz ?_
    cases H
    exact fin_ret (.cons (.tmp rfl) .nil) rfl rfl rfl
end Go.AM
