/-
  Own text: a part of the abstract machine for this seat (Kai). No statement is proved here.
-/
import Derived.Test.YtmfccbgmdnhkfaaKag
set_option linter.unusedVariables false
namespace Go.AM
open Go.Proofs
attribute [local irreducible] AWN NS AWO AWR AWC DR Weak iterQ
set_option maxRecDepth 100000
set_option maxHeartbeats 4000000
def iVisitorsOf_L1 (a0 : List TRegistration) (a1 : Int) : (Int × List TSubscriberID) → Option (Step (Int × List TSubscriberID) (List TSubscriberID))
  | (v1, v2) => bif ltB v1 ((a0.length : Nat) : Int) then (Option.bind (ix a0 v1) fun x7 => Option.bind (bif eqB x7.ID.Network a1 then (some (!eqB x7.Network a1)) else (some false)) fun (v8 : Bool) => Option.bind (bif v8 then (bif apOk 16 (v2 ++ [x7.ID]).length then (some (v2 ++ [x7.ID])) else none) else (some v2)) fun (v9 : List TSubscriberID) => some (.next (WR (v1 + 1), v9))) else (some (.done v2))
def iVisitorsOf (a0 : List TRegistration) (a1 : Int) : Option (List TSubscriberID) :=
  Option.bind (iter (iVisitorsOf_L1 a0 a1) FU (0, ([] : List TSubscriberID))) fun (v6 : List TSubscriberID) => some v6
theorem iVisitorsOf_c {a0 : List TRegistration} {a1 : Int} {r : List TSubscriberID} (H : iVisitorsOf a0 a1 = some r) : Fn Try.prog 8 [aL (a0.map eTRegistration), aI a1] [.c (.own 30 2 (r.map eTSubscriberID) r.length)] := by
  refine fn_in Try.func8 rfl (by kernel_rfl) Try.ntmps8 rfl rfl rfl ?_
  refine wk ?_
  obtain ⟨v6, Hj, H⟩ := ob H
  refine awc_jblk ⟨[(5, .v (.c (.w 0 v6.length)))], [(0, .row 30 2 (v6.map eTSubscriberID) true true)], 1⟩ ?_ ?_
  · refine wk ?_
    refine awc_iter (fun (q : Int × List TSubscriberID) => ⟨[(1, tI a1), (5, .v (.c (.w 0 q.2.length))), (9, .v (.c (.d false (.l (a0.map eTRegistration))))), (10, tI ((a0.length : Nat) : Int)), (11, tI q.1)], [(0, .row 30 2 (q.2.map eTSubscriberID) true true)], 1⟩) Hj (weak_of ⟨rfl, rfl, wn rfl (by first | rfl | simp), rfl, rfl, rfl, rfl, rfl, rfl, rfl, trivial⟩ ⟨rfl, ⟨rfl, rfl⟩, trivial⟩) ?_
    rintro ⟨v1, v2⟩ o H
    try dsimp only
    refine wk ?_
    refine awc_cond rfl (fun h => ?_) (fun h => ?_)
    · have H := bt h H
      refine wk ?_
      obtain ⟨x7, hx7, H⟩ := ob H
      refine awr_n rfl (xdT (enc := eTRegistration) hx7 (fun _ => rfl) rfl rfl rfl) ?_
      refine wk ?_
      obtain ⟨v8, Hj, H⟩ := ob H
      refine awr_join ⟨[(1, tI a1), (5, .v (.c (.w 0 v2.length))), (7, .v (.c (.p 1 0))), (9, .v (.c (.d false (.l (a0.map eTRegistration))))), (10, tI ((a0.length : Nat) : Int)), (11, tI v1), (25, tB v8)], [(0, .row 30 2 (v2.map eTSubscriberID) true true), (1, .var 34 [.d false (.i .i64 x7.ID.Network), .d false (.i .i64 x7.ID.Number), .d false (.i .i64 x7.Network), .d false (.i .i64 x7.Area), .d false (.i .i64 x7.TempID.Pool), .d false (.i .i64 x7.TempID.Number)])], 2⟩ ?_ ?_
      · have H := Hj
        refine wk ?_
        refine g2 rfl rfl rfl (fun h => ?_) (fun h => ?_)
        · have H := bt h H
          refine wk ?_
          cases H
          exact weak_of ⟨rfl, rfl, wn rfl (by first | rfl | simp), rfl, rfl, rfl, rfl, rfl, rfl, rfl, rfl, rfl, rfl, rfl, trivial⟩ ⟨rfl, ⟨rfl, rfl⟩, rfl, ⟨rfl, rfl⟩, trivial⟩
        · have H := bf h H
          refine wk ?_
          cases H
          exact weak_of ⟨rfl, rfl, wn rfl (by first | rfl | simp), rfl, rfl, rfl, rfl, rfl, rfl, rfl, rfl, rfl, rfl, rfl, trivial⟩ ⟨rfl, ⟨rfl, rfl⟩, rfl, ⟨rfl, rfl⟩, trivial⟩
      refine wk ?_
      obtain ⟨v9, Hj, H⟩ := ob H
      refine awc_join ⟨[(1, tI a1), (5, .v (.c (.w 0 v9.length))), (9, .v (.c (.d false (.l (a0.map eTRegistration))))), (10, tI ((a0.length : Nat) : Int)), (11, tI v1)], [(0, .row 30 2 (v9.map eTSubscriberID) true true)], 1⟩ ?_ ?_
      · have H := Hj
        refine wk ?_
        refine awc_cond rfl (fun h => ?_) (fun h => ?_)
        · have H := bt h H
          refine wk ?_
          obtain ⟨h, H⟩ := rq H
          refine awr_step rfl (apT (enc := eTSubscriberID) (ys := v2) (zs := [x7.ID]) h rfl (fun _ => rfl) (by first | rfl | simp) (.w rfl (by first | rfl | exact lm _ | simp)) rfl rfl rfl rfl rfl rfl rfl rfl) ?_
          refine wk ?_
          cases H
          exact weak_of ⟨rfl, rfl, wn rfl (by first | rfl | simp), rfl, rfl, rfl, rfl, rfl, rfl, rfl, trivial⟩ ⟨rfl, ⟨rfl, rfl⟩, trivial⟩
        · have H := bf h H
          refine wk ?_
          cases H
          exact weak_of ⟨rfl, rfl, wn rfl (by first | rfl | simp), rfl, rfl, rfl, rfl, rfl, rfl, rfl, trivial⟩ ⟨rfl, ⟨rfl, rfl⟩, trivial⟩
      refine wk ?_
      cases H
      refine iq_n ?_
      exact weak_of ⟨rfl, rfl, wn rfl (by first | rfl | simp), rfl, rfl, rfl, rfl, rfl, rfl, rfl, trivial⟩ ⟨rfl, ⟨rfl, rfl⟩, trivial⟩
    · have H := bf h H
      refine wk ?_
      cases H
      refine iq_e (fun hq => ?_)
      cases hq
      refine wk ?_
      exact weak_of ⟨wn rfl (by first | rfl | simp), rfl, trivial⟩ ⟨rfl, ⟨rfl, rfl⟩, trivial⟩
  refine wk ?_
  cases H
  exact fin_ret (.cons (.tmp rfl) .nil) rfl rfl (by first | rfl | simp)
def iTempIDsIn_L1 (a0 : List TRegistration) (a1 : Int) : (Int × List TTempID) → Option (Step (Int × List TTempID) (List TTempID))
  | (v1, v2) => bif ltB v1 ((a0.length : Nat) : Int) then (Option.bind (ix a0 v1) fun x6 => Option.bind (bif eqB x6.Network a1 then (bif apOk 16 (v2 ++ [x6.TempID]).length then (some (v2 ++ [x6.TempID])) else none) else (some v2)) fun (v7 : List TTempID) => some (.next (WR (v1 + 1), v7))) else (some (.done v2))
def iTempIDsIn (a0 : List TRegistration) (a1 : Int) : Option (List TTempID) :=
  Option.bind (iter (iTempIDsIn_L1 a0 a1) FU (0, ([] : List TTempID))) fun (v5 : List TTempID) => some v5
theorem iTempIDsIn_c {a0 : List TRegistration} {a1 : Int} {r : List TTempID} (H : iTempIDsIn a0 a1 = some r) : Fn Try.prog 10 [aL (a0.map eTRegistration), aI a1] [.c (.own 32 2 (r.map eTTempID) r.length)] := by
  refine fn_in Try.func10 rfl (by kernel_rfl) Try.ntmps10 rfl rfl rfl ?_
  refine wk ?_
  obtain ⟨v5, Hj, H⟩ := ob H
  refine awc_jblk ⟨[(5, .v (.c (.w 0 v5.length)))], [(0, .row 32 2 (v5.map eTTempID) true true)], 1⟩ ?_ ?_
  · refine wk ?_
    refine awc_iter (fun (q : Int × List TTempID) => ⟨[(1, tI a1), (5, .v (.c (.w 0 q.2.length))), (9, .v (.c (.d false (.l (a0.map eTRegistration))))), (10, tI ((a0.length : Nat) : Int)), (11, tI q.1)], [(0, .row 32 2 (q.2.map eTTempID) true true)], 1⟩) Hj (weak_of ⟨rfl, rfl, wn rfl (by first | rfl | simp), rfl, rfl, rfl, rfl, rfl, rfl, rfl, trivial⟩ ⟨rfl, ⟨rfl, rfl⟩, trivial⟩) ?_
    rintro ⟨v1, v2⟩ o H
    try dsimp only
    refine wk ?_
    refine awc_cond rfl (fun h => ?_) (fun h => ?_)
    · have H := bt h H
      refine wk ?_
      obtain ⟨x6, hx6, H⟩ := ob H
      refine awr_n rfl (xdT (enc := eTRegistration) hx6 (fun _ => rfl) rfl rfl rfl) ?_
      refine wk ?_
      obtain ⟨v7, Hj, H⟩ := ob H
      refine awc_join ⟨[(1, tI a1), (5, .v (.c (.w 0 v7.length))), (9, .v (.c (.d false (.l (a0.map eTRegistration))))), (10, tI ((a0.length : Nat) : Int)), (11, tI v1)], [(0, .row 32 2 (v7.map eTTempID) true true)], 1⟩ ?_ ?_
      · have H := Hj
        refine wk ?_
        refine awc_cond rfl (fun h => ?_) (fun h => ?_)
        · have H := bt h H
          refine wk ?_
          obtain ⟨h, H⟩ := rq H
          refine awr_step rfl (apT (enc := eTTempID) (ys := v2) (zs := [x6.TempID]) h rfl (fun _ => rfl) (by first | rfl | simp) (.w rfl (by first | rfl | exact lm _ | simp)) rfl rfl rfl rfl rfl rfl rfl rfl) ?_
          refine wk ?_
          cases H
          exact weak_of ⟨rfl, rfl, wn rfl (by first | rfl | simp), rfl, rfl, rfl, rfl, rfl, rfl, rfl, trivial⟩ ⟨rfl, ⟨rfl, rfl⟩, trivial⟩
        · have H := bf h H
          refine wk ?_
          cases H
          exact weak_of ⟨rfl, rfl, wn rfl (by first | rfl | simp), rfl, rfl, rfl, rfl, rfl, rfl, rfl, trivial⟩ ⟨rfl, ⟨rfl, rfl⟩, trivial⟩
      refine wk ?_
      cases H
      refine iq_n ?_
      exact weak_of ⟨rfl, rfl, wn rfl (by first | rfl | simp), rfl, rfl, rfl, rfl, rfl, rfl, rfl, trivial⟩ ⟨rfl, ⟨rfl, rfl⟩, trivial⟩
    · have H := bf h H
      refine wk ?_
      cases H
      refine iq_e (fun hq => ?_)
      cases hq
      refine wk ?_
      exact weak_of ⟨wn rfl (by first | rfl | simp), rfl, trivial⟩ ⟨rfl, ⟨rfl, rfl⟩, trivial⟩
  refine wk ?_
  cases H
  exact fin_ret (.cons (.tmp rfl) .nil) rfl rfl (by first | rfl | simp)
def iRoamingCodeName (a0 : Int) : Option ByteArray :=
  bif eqB a0 0 then (some ⟨#[111, 107]⟩) else (bif eqB a0 1 then (some ⟨#[117, 110, 107, 110, 111, 119, 110, 45, 110, 101, 116, 119, 111, 114, 107]⟩) else (bif eqB a0 2 then (some ⟨#[110, 111, 116, 45, 115, 117, 98, 115, 99, 114, 105, 98, 101, 100]⟩) else (bif eqB a0 3 then (some ⟨#[110, 111, 45, 97, 103, 114, 101, 101, 109, 101, 110, 116]⟩) else (bif eqB a0 4 then (some ⟨#[110, 111, 45, 116, 101, 109, 112, 45, 105, 100]⟩) else (bif eqB a0 5 then (some ⟨#[114, 101, 103, 105, 115, 116, 101, 114, 45, 102, 117, 108, 108]⟩) else (some ⟨#[]⟩))))))
theorem iRoamingCodeName_c {a0 : Int} {r : ByteArray} (H : iRoamingCodeName a0 = some r) : Fn Try.prog 11 [aI a0] [.c (.d (.str r))] := by
  refine fn_in Try.func11 rfl (by kernel_rfl) Try.ntmps11 rfl rfl rfl ?_
  refine wk ?_
  refine awc_cond rfl (fun h => ?_) (fun h => ?_)
  · have H := bt h H
    refine wk ?_
    cases H
    exact fin_ret (.cons (.tmp rfl) .nil) rfl rfl rfl
  · have H := bf h H
    refine wk ?_
    refine awc_cond rfl (fun h => ?_) (fun h => ?_)
    · have H := bt h H
      refine wk ?_
      cases H
      exact fin_ret (.cons (.tmp rfl) .nil) rfl rfl rfl
    · have H := bf h H
      refine wk ?_
      refine awc_cond rfl (fun h => ?_) (fun h => ?_)
      · have H := bt h H
        refine wk ?_
        cases H
        exact fin_ret (.cons (.tmp rfl) .nil) rfl rfl rfl
      · have H := bf h H
        refine wk ?_
        refine awc_cond rfl (fun h => ?_) (fun h => ?_)
        · have H := bt h H
          refine wk ?_
          cases H
          exact fin_ret (.cons (.tmp rfl) .nil) rfl rfl rfl
        · have H := bf h H
          refine wk ?_
          refine awc_cond rfl (fun h => ?_) (fun h => ?_)
          · have H := bt h H
            refine wk ?_
            cases H
            exact fin_ret (.cons (.tmp rfl) .nil) rfl rfl rfl
          · have H := bf h H
            refine wk ?_
            refine awc_cond rfl (fun h => ?_) (fun h => ?_)
            · have H := bt h H
              refine wk ?_
              cases H
              exact fin_ret (.cons (.tmp rfl) .nil) rfl rfl rfl
            · have H := bf h H
              refine wk ?_
              cases H
              exact fin_ret (.cons (.tmp rfl) .nil) rfl rfl rfl
def iRoamingAllowed (a0 : TSubscription) (a1 : Int) (a2 : Int) : Option Bool :=
  Option.bind (bif eqB a2 a1 then (some true) else (Option.bind (gslices_Contains_int_int a0.RoamingNetworks a2) fun r2 => some r2)) fun (v1 : Bool) => some v1
theorem iRoamingAllowed_c {a0 : TSubscription} {a1 : Int} {a2 : Int} {r : Bool} (H : iRoamingAllowed a0 a1 a2 = some r) : Fn Try.prog 15 [.agg (eTSubscription a0), aI a1, aI a2] [.c (.d (.b r))] := by
  refine fn_in Try.func15 rfl (by kernel_rfl) Try.ntmps15 rfl rfl rfl ?_
  refine wk ?_
  obtain ⟨v1, Hj, H⟩ := ob H
  refine awr_join ⟨[(6, tB v1)], [], 0⟩ ?_ ?_
  · have H := Hj
    refine wk ?_
    refine g2 rfl rfl rfl (fun h => ?_) (fun h => ?_)
    · have H := bt h H
      refine wk ?_
      cases H
      exact weak_of ⟨rfl, rfl, trivial⟩ trivial
    · have H := bf h H
      refine wk ?_
      obtain ⟨r2, hr2, H⟩ := ob H
      refine awr_ng rfl rfl rfl rfl (ca rfl rfl rfl (gslices_Contains_int_int_c hr2) trivial rfl rfl rfl rfl) ?_
      refine wk ?_
      cases H
      exact weak_of ⟨rfl, rfl, trivial⟩ trivial
  refine wk ?_
  cases H
  exact fin_ret (.cons (.tmp rfl) .nil) rfl rfl rfl
def iFindAgreement_L1 (a0 : List TRoamingAgreement) (a1 : Int) (a2 : Int) : Int → Option (Step (Int) (Int))
  | v1 => bif ltB v1 ((a0.length : Nat) : Int) then (Option.bind (ix a0 v1) fun x2 => Option.bind (bif eqB x2.Home a1 then (some (eqB x2.Visited a2)) else (some false)) fun (v3 : Bool) => bif v3 then (dn (some v1)) else (some (.next (WR (v1 + 1))))) else (dn (some (-1)))
def iFindAgreement (a0 : List TRoamingAgreement) (a1 : Int) (a2 : Int) : Option Int :=
  iter (iFindAgreement_L1 a0 a1 a2) FU 0
theorem iFindAgreement_c {a0 : List TRoamingAgreement} {a1 : Int} {a2 : Int} {r : Int} (H : iFindAgreement a0 a1 a2 = some r) : Fn Try.prog 18 [aL (a0.map eTRoamingAgreement), aI a1, aI a2] [.c (.d (.i .i64 r))] := by
  refine fn_in Try.func18 rfl (by kernel_rfl) Try.ntmps18 rfl rfl rfl ?_
  refine wk ?_
  refine awc_iter (fun (q : Int) => ⟨[(1, tI a1), (2, tI a2), (9, .v (.c (.d false (.l (a0.map eTRoamingAgreement))))), (10, tI ((a0.length : Nat) : Int)), (11, tI q)], [], 0⟩) H (weak_of ⟨rfl, rfl, rfl, rfl, rfl, rfl, rfl, rfl, rfl, rfl, trivial⟩ trivial) ?_
  rintro v1 o H
  try dsimp only
  refine wk ?_
  refine awc_cond rfl (fun h => ?_) (fun h => ?_)
  · have H := bt h H
    refine wk ?_
    obtain ⟨x2, hx2, H⟩ := ob H
    refine awr_n rfl (xdT (enc := eTRoamingAgreement) hx2 (fun _ => rfl) rfl rfl rfl) ?_
    refine wk ?_
    obtain ⟨v3, Hj, H⟩ := ob H
    refine awr_join ⟨[(1, tI a1), (2, tI a2), (7, tI v1), (9, .v (.c (.d false (.l (a0.map eTRoamingAgreement))))), (10, tI ((a0.length : Nat) : Int)), (11, tI v1), (25, tB v3)], [], 0⟩ ?_ ?_
    · have H := Hj
      refine wk ?_
      refine g2 rfl rfl rfl (fun h => ?_) (fun h => ?_)
      · have H := bt h H
        refine wk ?_
        cases H
        exact weak_of ⟨rfl, rfl, rfl, rfl, rfl, rfl, rfl, rfl, rfl, rfl, rfl, rfl, rfl, rfl, trivial⟩ trivial
      · have H := bf h H
        refine wk ?_
        cases H
        exact weak_of ⟨rfl, rfl, rfl, rfl, rfl, rfl, rfl, rfl, rfl, rfl, rfl, rfl, rfl, rfl, trivial⟩ trivial
    refine wk ?_
    refine awc_cond rfl (fun h => ?_) (fun h => ?_)
    · have H := bt h H
      refine wk ?_
      obtain ⟨r0, Hd, rfl⟩ := dnE H
      refine iq_r (fun hq => ?_)
      have H := Hd.trans (congrArg some hq)
      refine wk ?_
      cases H
      exact fin_ret (.cons (.tmp rfl) .nil) rfl rfl rfl
    · have H := bf h H
      refine wk ?_
      cases H
      refine iq_n ?_
      exact weak_of ⟨rfl, rfl, rfl, rfl, rfl, rfl, rfl, rfl, rfl, rfl, trivial⟩ trivial
  · have H := bf h H
    refine wk ?_
    obtain ⟨r0, Hd, rfl⟩ := dnE H
    refine iq_e (fun hq => ?_)
    have H := Hd.trans (congrArg some hq)
    refine wk ?_
    cases H
    exact fin_ret (.cons (.tmp rfl) .nil) rfl rfl rfl
def iInRange (a0 : Int) (a1 : Int) (a2 : Int) : Option Bool :=
  Option.bind (bif leB a1 a0 then (some (leB a0 a2)) else (some false)) fun (v1 : Bool) => some v1
theorem iInRange_c {a0 : Int} {a1 : Int} {a2 : Int} {r : Bool} (H : iInRange a0 a1 a2 = some r) : Fn Try.prog 35 [aI a0, aI a1, aI a2] [.c (.d (.b r))] := by
  refine fn_in Try.func35 rfl (by kernel_rfl) Try.ntmps35 rfl rfl rfl ?_
  refine wk ?_
  obtain ⟨v1, Hj, H⟩ := ob H
  refine awr_join ⟨[(6, tB v1)], [], 0⟩ ?_ ?_
  · have H := Hj
    refine wk ?_
    refine g2 rfl rfl rfl (fun h => ?_) (fun h => ?_)
    · have H := bt h H
      refine wk ?_
      cases H
      exact weak_of ⟨rfl, rfl, trivial⟩ trivial
    · have H := bf h H
      refine wk ?_
      cases H
      exact weak_of ⟨rfl, rfl, trivial⟩ trivial
  refine wk ?_
  cases H
  exact fin_ret (.cons (.tmp rfl) .nil) rfl rfl rfl
def iIsValidSubscriberID (a0 : TSubscriberID) : Option Bool :=
  Option.bind (iInRange a0.Network 0 3) fun r1 => Option.bind (bif r1 then (Option.bind (iInRange a0.Number 0 99) fun r3 => some r3) else (some false)) fun (v2 : Bool) => some v2
theorem iIsValidSubscriberID_c {a0 : TSubscriberID} {r : Bool} (H : iIsValidSubscriberID a0 = some r) : Fn Try.prog 36 [.agg (eTSubscriberID a0)] [.c (.d (.b r))] := by
  refine fn_in Try.func36 rfl (by kernel_rfl) Try.ntmps36 rfl rfl rfl ?_
  refine wk ?_
  obtain ⟨r1, hr1, H⟩ := ob H
  refine awr_n rfl (ca rfl rfl rfl (iInRange_c hr1) trivial rfl rfl rfl rfl) ?_
  refine wk ?_
  obtain ⟨v2, Hj, H⟩ := ob H
  refine awr_join ⟨[(2, tB v2)], [], 0⟩ ?_ ?_
  · have H := Hj
    refine wk ?_
    refine g2 rfl rfl rfl (fun h => ?_) (fun h => ?_)
    · have H := bt h H
      refine wk ?_
      obtain ⟨r3, hr3, H⟩ := ob H
      refine awr_ng rfl rfl rfl rfl (ca rfl rfl rfl (iInRange_c hr3) trivial rfl rfl rfl rfl) ?_
      refine wk ?_
      cases H
      exact weak_of ⟨rfl, rfl, trivial⟩ trivial
    · have H := bf h H
      refine wk ?_
      cases H
      exact weak_of ⟨rfl, rfl, trivial⟩ trivial
  refine wk ?_
  cases H
  exact fin_ret (.cons (.tmp rfl) .nil) rfl rfl rfl
def iIsValidAgreement (a0 : TRoamingAgreement) : Option Bool :=
  Option.bind (iInRange a0.Home 0 3) fun r1 => Option.bind (bif r1 then (Option.bind (iInRange a0.Visited 0 3) fun r3 => bif r3 then (bif !eqB a0.Home a0.Visited then (Option.bind (iInRange a0.Price 0 1000) fun r4 => bif r4 then (Option.bind (iInRange a0.Cap 0 1000000000000) fun r5 => some r5) else (some false)) else (some false)) else (some false)) else (some false)) fun (v2 : Bool) => some v2
theorem iIsValidAgreement_c {a0 : TRoamingAgreement} {r : Bool} (H : iIsValidAgreement a0 = some r) : Fn Try.prog 37 [.agg (eTRoamingAgreement a0)] [.c (.d (.b r))] := by
  refine fn_in Try.func37 rfl (by kernel_rfl) Try.ntmps37 rfl rfl rfl ?_
  refine wk ?_
  obtain ⟨r1, hr1, H⟩ := ob H
  refine awr_n rfl (ca rfl rfl rfl (iInRange_c hr1) trivial rfl rfl rfl rfl) ?_
  refine wk ?_
  obtain ⟨v2, Hj, H⟩ := ob H
  refine awr_join ⟨[(2, tB v2)], [], 0⟩ ?_ ?_
  · have H := Hj
    refine wk ?_
    refine g2 rfl rfl rfl (fun h => ?_) (fun h => ?_)
    · have H := bt h H
      refine wk ?_
      obtain ⟨r3, hr3, H⟩ := ob H
      refine awr_ng rfl rfl rfl rfl (ca rfl rfl rfl (iInRange_c hr3) trivial rfl rfl rfl rfl) ?_
      refine wk ?_
      refine g2 rfl rfl rfl (fun h => ?_) (fun h => ?_)
      · have H := bt h H
        refine wk ?_
        refine g2 rfl rfl rfl (fun h => ?_) (fun h => ?_)
        · have H := bt h H
          refine wk ?_
          obtain ⟨r4, hr4, H⟩ := ob H
          refine awr_ng rfl rfl rfl rfl (ca rfl rfl rfl (iInRange_c hr4) trivial rfl rfl rfl rfl) ?_
          refine wk ?_
          refine g2 rfl rfl rfl (fun h => ?_) (fun h => ?_)
          · have H := bt h H
            refine wk ?_
            obtain ⟨r5, hr5, H⟩ := ob H
            refine awr_ng rfl rfl rfl rfl (ca rfl rfl rfl (iInRange_c hr5) trivial rfl rfl rfl rfl) ?_
            refine wk ?_
            cases H
            exact weak_of ⟨rfl, rfl, trivial⟩ trivial
          · have H := bf h H
            refine wk ?_
            cases H
            exact weak_of ⟨rfl, rfl, trivial⟩ trivial
        · have H := bf h H
          refine wk ?_
          cases H
          exact weak_of ⟨rfl, rfl, trivial⟩ trivial
      · have H := bf h H
        refine wk ?_
        cases H
        exact weak_of ⟨rfl, rfl, trivial⟩ trivial
    · have H := bf h H
      refine wk ?_
      cases H
      exact weak_of ⟨rfl, rfl, trivial⟩ trivial
  refine wk ?_
  cases H
  exact fin_ret (.cons (.tmp rfl) .nil) rfl rfl rfl
def iCheckRoaming (a0 : TSubscription) (a1 : List TRoamingAgreement) (a2 : TSubscriberID) (a3 : Int) : Option Int :=
  Option.bind (iInRange a3 0 3) fun r1 => Option.bind (bif !r1 then (some true) else (Option.bind (iIsValidSubscriberID a2) fun r3 => some (!r3))) fun (v2 : Bool) => bif v2 then (some 1) else (bif eqB a3 a2.Network then (some 0) else (Option.bind (iRoamingAllowed a0 a2.Network a3) fun r4 => bif !r4 then (some 2) else (Option.bind (iFindAgreement a1 a2.Network a3) fun r5 => Option.bind (bif ltB r5 0 then (some true) else (Option.bind (ix a1 r5) fun x7 => Option.bind (iIsValidAgreement x7) fun r8 => some (!r8))) fun (v6 : Bool) => bif v6 then (some 3) else (some 0))))
theorem iCheckRoaming_c {a0 : TSubscription} {a1 : List TRoamingAgreement} {a2 : TSubscriberID} {a3 : Int} {r : Int} (H : iCheckRoaming a0 a1 a2 a3 = some r) : Fn Try.prog 13 [.agg (eTSubscription a0), aL (a1.map eTRoamingAgreement), .agg (eTSubscriberID a2), aI a3] [.c (.d (.i .i64 r))] := by
  refine fn_in Try.func13 rfl (by kernel_rfl) Try.ntmps13 rfl rfl rfl ?_
  refine wk ?_
  obtain ⟨r1, hr1, H⟩ := ob H
  refine awr_n rfl (ca rfl rfl rfl (iInRange_c hr1) trivial rfl rfl rfl rfl) ?_
  refine wk ?_
  obtain ⟨v2, Hj, H⟩ := ob H
  refine awr_join ⟨[(1, .v (.c (.d false (.l (a1.map eTRoamingAgreement))))), (3, tI a3), (4, .v (.c (.p 0 0))), (6, .v (.c (.p 1 0))), (17, tB v2)], [(0, .var 40 [.d false (.i .i64 a0.RateLimit), .d false (.i .i64 a0.BestClass), .d false (.i .i64 a0.GrantSize), .d false (.l (a0.RoamingNetworks.map eI))]), (1, .var 30 [.d false (.i .i64 a2.Network), .d false (.i .i64 a2.Number)])], 2⟩ ?_ ?_
  · have H := Hj
    refine wk ?_
    refine g2 rfl rfl rfl (fun h => ?_) (fun h => ?_)
    · have H := bt h H
      refine wk ?_
      cases H
      exact weak_of ⟨rfl, rfl, rfl, rfl, rfl, rfl, rfl, rfl, rfl, rfl, trivial⟩ ⟨rfl, ⟨rfl, rfl⟩, rfl, ⟨rfl, rfl⟩, trivial⟩
    · have H := bf h H
      refine wk ?_
      obtain ⟨r3, hr3, H⟩ := ob H
      refine awr_ng rfl rfl rfl rfl (ca rfl rfl rfl (iIsValidSubscriberID_c hr3) trivial rfl rfl rfl rfl) ?_
      refine wk ?_
      cases H
      exact weak_of ⟨rfl, rfl, rfl, rfl, rfl, rfl, rfl, rfl, rfl, rfl, trivial⟩ ⟨rfl, ⟨rfl, rfl⟩, rfl, ⟨rfl, rfl⟩, trivial⟩
  refine wk ?_
  refine awc_cond rfl (fun h => ?_) (fun h => ?_)
  · have H := bt h H
    refine wk ?_
    cases H
    exact fin_ret (.cons (.tmp rfl) .nil) rfl rfl rfl
  · have H := bf h H
    refine wk ?_
    refine awc_cond rfl (fun h => ?_) (fun h => ?_)
    · have H := bt h H
      refine wk ?_
      cases H
      exact fin_ret (.cons (.tmp rfl) .nil) rfl rfl rfl
    · have H := bf h H
      refine wk ?_
      obtain ⟨r4, hr4, H⟩ := ob H
      refine awr_n rfl (ca rfl rfl rfl (iRoamingAllowed_c hr4) trivial rfl rfl rfl rfl) ?_
      refine wk ?_
      refine awc_cond rfl (fun h => ?_) (fun h => ?_)
      · have H := bt h H
        refine wk ?_
        cases H
        exact fin_ret (.cons (.tmp rfl) .nil) rfl rfl rfl
      · have H := bf h H
        refine wk ?_
        obtain ⟨r5, hr5, H⟩ := ob H
        refine awr_n rfl (ca rfl rfl rfl (iFindAgreement_c hr5) trivial rfl rfl rfl rfl) ?_
        refine wk ?_
        obtain ⟨v6, Hj, H⟩ := ob H
        refine awr_join ⟨[(42, tB v6)], [], 0⟩ ?_ ?_
        · have H := Hj
          refine wk ?_
          refine g2 rfl rfl rfl (fun h => ?_) (fun h => ?_)
          · have H := bt h H
            refine wk ?_
            cases H
            exact weak_of ⟨rfl, rfl, trivial⟩ trivial
          · have H := bf h H
            refine wk ?_
            obtain ⟨x7, hx7, H⟩ := ob H
            refine awr_ng rfl rfl rfl rfl (xdT (enc := eTRoamingAgreement) hx7 (fun _ => rfl) rfl rfl rfl) ?_
            refine wk ?_
            obtain ⟨r8, hr8, H⟩ := ob H
            refine awr_ng rfl rfl rfl rfl (ca rfl rfl rfl (iIsValidAgreement_c hr8) trivial rfl rfl rfl rfl) ?_
            refine wk ?_
            cases H
            exact weak_of ⟨rfl, rfl, trivial⟩ trivial
        refine wk ?_
        refine awc_cond rfl (fun h => ?_) (fun h => ?_)
        · have H := bt h H
          refine wk ?_
          cases H
          exact fin_ret (.cons (.tmp rfl) .nil) rfl rfl rfl
        · have H := bf h H
          refine wk ?_
          cases H
          exact fin_ret (.cons (.tmp rfl) .nil) rfl rfl rfl
def iHomeRouted (a0 : TSubscription) (a1 : TSubscriberID) (a2 : Int) : Option Bool :=
  Option.bind (bif !eqB a2 a1.Network then (Option.bind (iRoamingAllowed a0 a1.Network a2) fun r2 => some r2) else (some false)) fun (v1 : Bool) => some v1
theorem iHomeRouted_c {a0 : TSubscription} {a1 : TSubscriberID} {a2 : Int} {r : Bool} (H : iHomeRouted a0 a1 a2 = some r) : Fn Try.prog 16 [.agg (eTSubscription a0), .agg (eTSubscriberID a1), aI a2] [.c (.d (.b r))] := by
  refine fn_in Try.func16 rfl (by kernel_rfl) Try.ntmps16 rfl rfl rfl ?_
  refine wk ?_
  obtain ⟨v1, Hj, H⟩ := ob H
  refine awr_join ⟨[(6, tB v1)], [], 0⟩ ?_ ?_
  · have H := Hj
    refine wk ?_
    refine g2 rfl rfl rfl (fun h => ?_) (fun h => ?_)
    · have H := bt h H
      refine wk ?_
      obtain ⟨r2, hr2, H⟩ := ob H
      refine awr_ng rfl rfl rfl rfl (ca rfl rfl rfl (iRoamingAllowed_c hr2) trivial rfl rfl rfl rfl) ?_
      refine wk ?_
      cases H
      exact weak_of ⟨rfl, rfl, trivial⟩ trivial
    · have H := bf h H
      refine wk ?_
      cases H
      exact weak_of ⟨rfl, rfl, trivial⟩ trivial
  refine wk ?_
  cases H
  exact fin_ret (.cons (.tmp rfl) .nil) rfl rfl rfl
def icopyItems_impl_Registration (a0 : List TRegistration) : Option (List TRegistration) :=
  bif mkOk 48 ((a0.length : Nat) : Int) ((a0.length : Nat) : Int) then (some (cpL (List.replicate (((a0.length : Nat) : Int)).toNat (⟨(⟨0, 0⟩ : TSubscriberID), 0, 0, (⟨0, 0⟩ : TTempID)⟩ : TRegistration)) a0)) else none
theorem icopyItems_impl_Registration_c {a0 : List TRegistration} {r : List TRegistration} (H : icopyItems_impl_Registration a0 = some r) : Fn Try.prog 58 [aL (a0.map eTRegistration)] [.c (.own 34 6 (r.map eTRegistration) r.length)] := by
  refine fn_in Try.func58 rfl (by kernel_rfl) Try.ntmps58 rfl rfl rfl ?_
  refine wk ?_
  obtain ⟨h, H⟩ := rq H
  refine awr_n rfl (mkT (enc := eTRegistration) (za := (⟨(⟨0, 0⟩ : TSubscriberID), 0, 0, (⟨0, 0⟩ : TTempID)⟩ : TRegistration)) h (by rfl) rfl rfl rfl rfl) ?_
  refine wk ?_
  refine awr_step rfl (cpT (enc := eTRegistration) (ys := (List.replicate (((a0.length : Nat) : Int)).toNat (⟨(⟨0, 0⟩ : TSubscriberID), 0, 0, (⟨0, 0⟩ : TTempID)⟩ : TRegistration))) (zs := a0) rfl (fun _ => rfl) (by first | rfl | simp) .d rfl rfl rfl rfl rfl) ?_
  refine awr_weak (weak_flat (enc := eTRegistration) (o := 0) rfl (fun _ => rfl)) ?_
  refine wk ?_
  cases H
  exact fin_ret (.cons (.tmp rfl) .nil) rfl rfl (by first | rfl | simp)
def irefuseRoaming (a0 : List TRegistration) (a1 : Int) : Option TRoamingResult :=
  Option.bind (icopyItems_impl_Registration a0) fun r1 => some (⟨a1, r1, -1, (⟨0, 0⟩ : TTempID)⟩ : TRoamingResult)
theorem irefuseRoaming_c {a0 : List TRegistration} {a1 : Int} {r : TRoamingResult} (H : irefuseRoaming a0 a1 = some r) : Fn Try.prog 42 [aL (a0.map eTRegistration), aI a1] [.agg [.d (.i .i64 r.Code), .own 34 6 (r.Registrations.map eTRegistration) r.Registrations.length, .d (.i .i64 r.Cancelled), .d (.i .i64 r.TempID.Pool), .d (.i .i64 r.TempID.Number)]] := by
  refine fn_in Try.func42 rfl (by kernel_rfl) Try.ntmps42 rfl rfl rfl ?_
  refine wk ?_
  obtain ⟨r1, hr1, H⟩ := ob H
  refine awr_n rfl (ca rfl rfl rfl (icopyItems_impl_Registration_c hr1) trivial rfl rfl rfl rfl) ?_
  refine wk ?_
  cases H
  exact fin_ret (.cons (.cell rfl rfl rfl) .nil) rfl rfl (by first | rfl | simp)
def iMod (a0 : Int) (a1 : Int) : Option Int :=
  Option.bind (iInRange a1 1 1000000000000) fun r1 => bif !r1 then (some 0) else (bif !eqB a1 0 then (Option.bind (bif ltB (Int.tmod a0 a1) 0 then (some (WR ((Int.tmod a0 a1) + a1))) else (some (Int.tmod a0 a1))) fun (v2 : Int) => some v2) else none)
theorem iMod_c {a0 : Int} {a1 : Int} {r : Int} (H : iMod a0 a1 = some r) : Fn Try.prog 73 [aI a0, aI a1] [.c (.d (.i .i64 r))] := by
  refine fn_in Try.func73 rfl (by kernel_rfl) Try.ntmps73 rfl rfl rfl ?_
  refine wk ?_
  obtain ⟨r1, hr1, H⟩ := ob H
  refine awr_n rfl (ca rfl rfl rfl (iInRange_c hr1) trivial rfl rfl rfl rfl) ?_
  refine wk ?_
  refine awc_cond rfl (fun h => ?_) (fun h => ?_)
  · have H := bt h H
    refine wk ?_
    cases H
    exact fin_ret (.cons (.tmp rfl) .nil) rfl rfl rfl
  · have H := bf h H
    refine wk ?_
    obtain ⟨h, H⟩ := rq H
    refine awr_n rfl (ir rfl rfl rfl (ne0 h)) ?_
    refine wk ?_
    obtain ⟨v2, Hj, H⟩ := ob H
    refine awc_join ⟨[(5, tI v2)], [], 0⟩ ?_ ?_
    · have H := Hj
      refine wk ?_
      refine awc_cond rfl (fun h => ?_) (fun h => ?_)
      · have H := bt h H
        refine wk ?_
        cases H
        exact weak_of ⟨rfl, rfl, trivial⟩ trivial
      · have H := bf h H
        refine wk ?_
        cases H
        exact weak_of ⟨rfl, rfl, trivial⟩ trivial
    refine wk ?_
    cases H
    exact fin_ret (.cons (.tmp rfl) .nil) rfl rfl rfl
def ihashStep (a0 : Int) (a1 : Int) : Option Int :=
  Option.bind (iMod a1 2147483647) fun r1 => some (Int.tmod (WR ((WR ((WR (a0 * 1000003)) + r1)) + 13)) 2147483647)
theorem ihashStep_c {a0 : Int} {a1 : Int} {r : Int} (H : ihashStep a0 a1 = some r) : Fn Try.prog 71 [aI a0, aI a1] [.c (.d (.i .i64 r))] := by
  refine fn_in Try.func71 rfl (by kernel_rfl) Try.ntmps71 rfl rfl rfl ?_
  refine wk ?_
  obtain ⟨r1, hr1, H⟩ := ob H
  refine awr_n rfl (ca rfl rfl rfl (iMod_c hr1) trivial rfl rfl rfl rfl) ?_
  refine wk ?_
  refine awr_n rfl (ir rfl rfl rfl (by decide)) ?_
  refine wk ?_
  cases H
  exact fin_ret (.cons (.tmp rfl) .nil) rfl rfl rfl
def iKeyedHash_L1 (a1 : List Int) : (Int × Int) → Option (Step (Int × Int) (Int))
  | (v2, v3) => bif ltB v3 ((a1.length : Nat) : Int) then (Option.bind (ix a1 v3) fun x7 => Option.bind (ihashStep v2 x7) fun r8 => some (.next (r8, WR (v3 + 1)))) else (some (.done v2))
def iKeyedHash (a0 : Int) (a1 : List Int) : Option Int :=
  Option.bind (ihashStep 11 a0) fun r1 => Option.bind (iter (iKeyedHash_L1 a1) FU (r1, 0)) fun (v6 : Int) => Option.bind (ihashStep v6 a0) fun r9 => some r9
theorem iKeyedHash_c {a0 : Int} {a1 : List Int} {r : Int} (H : iKeyedHash a0 a1 = some r) : Fn Try.prog 65 [aI a0, aL (a1.map eI)] [.c (.d (.i .i64 r))] := by
  refine fn_in Try.func65 rfl (by kernel_rfl) Try.ntmps65 rfl rfl rfl ?_
  refine wk ?_
  obtain ⟨r1, hr1, H⟩ := ob H
  refine awr_n rfl (ca rfl rfl rfl (ihashStep_c hr1) trivial rfl rfl rfl rfl) ?_
  refine wk ?_
  obtain ⟨v6, Hj, H⟩ := ob H
  refine awc_jblk ⟨[(0, tI a0), (5, tI v6)], [], 0⟩ ?_ ?_
  · refine wk ?_
    refine awc_iter (fun (q : Int × Int) => ⟨[(0, tI a0), (5, tI q.1), (10, .v (.c (.d false (.l (a1.map eI))))), (11, tI ((a1.length : Nat) : Int)), (12, tI q.2)], [], 0⟩) Hj (weak_of ⟨rfl, rfl, rfl, rfl, rfl, rfl, rfl, rfl, rfl, rfl, trivial⟩ trivial) ?_
    rintro ⟨v2, v3⟩ o H
    try dsimp only
    refine wk ?_
    refine awc_cond rfl (fun h => ?_) (fun h => ?_)
    · have H := bt h H
      refine wk ?_
      obtain ⟨x7, hx7, H⟩ := ob H
      refine awr_n rfl (xdT (enc := eI) hx7 (fun _ => rfl) rfl rfl rfl) ?_
      refine wk ?_
      obtain ⟨r8, hr8, H⟩ := ob H
      refine awr_n rfl (ca rfl rfl rfl (ihashStep_c hr8) trivial rfl rfl rfl rfl) ?_
      refine wk ?_
      cases H
      refine iq_n ?_
      exact weak_of ⟨rfl, rfl, rfl, rfl, rfl, rfl, rfl, rfl, rfl, rfl, trivial⟩ trivial
    · have H := bf h H
      refine wk ?_
      cases H
      refine iq_e (fun hq => ?_)
      cases hq
      refine wk ?_
      exact weak_of ⟨rfl, rfl, rfl, rfl, trivial⟩ trivial
  refine wk ?_
  obtain ⟨r9, hr9, H⟩ := ob H
  refine awr_n rfl (ca rfl rfl rfl (ihashStep_c hr9) trivial rfl rfl rfl rfl) ?_
  refine wk ?_
  cases H
  exact fin_ret (.cons (.tmp rfl) .nil) rfl rfl rfl
def iTempIDCandidate (a0 : Int) (a1 : Int) (a2 : TSubscriberID) (a3 : Int) : Option TTempID :=
  Option.bind (iKeyedHash a0 [a2.Network, a2.Number, a3]) fun r1 => some (⟨a1, Int.tmod r1 10000⟩ : TTempID)
theorem iTempIDCandidate_c {a0 : Int} {a1 : Int} {a2 : TSubscriberID} {a3 : Int} {r : TTempID} (H : iTempIDCandidate a0 a1 a2 a3 = some r) : Fn Try.prog 59 [aI a0, aI a1, .agg (eTSubscriberID a2), aI a3] [.agg [.d (.i .i64 r.Pool), .d (.i .i64 r.Number)]] := by
  refine fn_in Try.func59 rfl (by kernel_rfl) Try.ntmps59 rfl rfl rfl ?_
  refine wk ?_
  obtain ⟨r1, hr1, H⟩ := ob H
  refine awr_n rfl (ca rfl rfl rfl (iKeyedHash_c hr1) ⟨by first | rfl | exact lm _, trivial⟩ rfl rfl rfl rfl) ?_
  refine wk ?_
  refine awr_n rfl (ir rfl rfl rfl (by decide)) ?_
  refine wk ?_
  cases H
  exact fin_ret (.cons (.cell rfl rfl rfl) .nil) rfl rfl rfl
def iAllocateTempID_L1 (a0 : Int) (a1 : Int) (a2 : TSubscriberID) (a3 : List TTempID) : Int → Option (Step (Int) (TTempID × Bool))
  | v1 => bif ltB v1 50 then (Option.bind (iTempIDCandidate a0 a1 a2 v1) fun r2 => Option.bind (gslices_Contains_impl_TempID_impl_TempID a3 r2) fun r3 => bif !r3 then (dn (some (r2, true))) else (some (.next (WR (v1 + 1))))) else (dn (some ((⟨0, 0⟩ : TTempID), false)))
def iAllocateTempID (a0 : Int) (a1 : Int) (a2 : TSubscriberID) (a3 : List TTempID) : Option (TTempID × Bool) :=
  iter (iAllocateTempID_L1 a0 a1 a2 a3) FU 0
theorem iAllocateTempID_c {a0 : Int} {a1 : Int} {a2 : TSubscriberID} {a3 : List TTempID} {r : TTempID × Bool} (H : iAllocateTempID a0 a1 a2 a3 = some r) : Fn Try.prog 43 [aI a0, aI a1, .agg (eTSubscriberID a2), aL (a3.map eTTempID)] [.agg [.d (.i .i64 r.1.Pool), .d (.i .i64 r.1.Number)], .c (.d (.b r.2))] := by
  refine fn_in Try.func43 rfl (by kernel_rfl) Try.ntmps43 rfl rfl rfl ?_
  refine wk ?_
  refine awc_iter (fun (q : Int) => ⟨[(0, tI a0), (1, tI a1), (3, .v (.c (.d false (.l (a3.map eTTempID))))), (6, .v (.c (.p 0 0))), (8, .v (.c (.p 1 0))), (10, tI q)], [(0, .var 30 [.d false (.i .i64 a2.Network), .d false (.i .i64 a2.Number)]), (1, .var 32 [.d false (.i .i64 0), .d false (.i .i64 0)])], 2⟩) H (weak_of ⟨rfl, rfl, rfl, rfl, rfl, rfl, rfl, rfl, rfl, rfl, rfl, rfl, trivial⟩ ⟨rfl, ⟨rfl, rfl⟩, rfl, ⟨rfl, rfl⟩, trivial⟩) ?_
  rintro v1 o H
  try dsimp only
  refine wk ?_
  refine awc_cond rfl (fun h => ?_) (fun h => ?_)
  · have H := bt h H
    refine wk ?_
    obtain ⟨r2, hr2, H⟩ := ob H
    refine awr_n rfl (ca rfl rfl rfl (iTempIDCandidate_c hr2) trivial rfl rfl rfl rfl) ?_
    refine wk ?_
    obtain ⟨r3, hr3, H⟩ := ob H
    refine awr_n rfl (ca rfl rfl rfl (gslices_Contains_impl_TempID_impl_TempID_c hr3) trivial rfl rfl rfl rfl) ?_
    refine wk ?_
    refine awc_cond rfl (fun h => ?_) (fun h => ?_)
    · have H := bt h H
      refine wk ?_
      obtain ⟨r0, Hd, rfl⟩ := dnE H
      refine iq_r (fun hq => ?_)
      have H := Hd.trans (congrArg some hq)
      refine wk ?_
      cases H
      exact fin_ret (.cons (.cell rfl rfl rfl) (.cons (.tmp rfl) .nil)) rfl rfl rfl
    · have H := bf h H
      refine wk ?_
      cases H
      refine iq_n ?_
      exact weak_of ⟨rfl, rfl, rfl, rfl, rfl, rfl, rfl, rfl, rfl, rfl, rfl, rfl, trivial⟩ ⟨rfl, ⟨rfl, rfl⟩, rfl, ⟨rfl, rfl⟩, trivial⟩
  · have H := bf h H
    refine wk ?_
    obtain ⟨r0, Hd, rfl⟩ := dnE H
    refine iq_e (fun hq => ?_)
    have H := Hd.trans (congrArg some hq)
    refine wk ?_
    cases H
    exact fin_ret (.cons (.cell rfl rfl rfl) (.cons (.tmp rfl) .nil)) rfl rfl rfl
def iIsValidTempID (a0 : TTempID) : Option Bool :=
  Option.bind (iInRange a0.Pool 0 3) fun r1 => Option.bind (bif r1 then (Option.bind (iInRange a0.Number 0 9999) fun r3 => some r3) else (some false)) fun (v2 : Bool) => some v2
theorem iIsValidTempID_c {a0 : TTempID} {r : Bool} (H : iIsValidTempID a0 = some r) : Fn Try.prog 48 [.agg (eTTempID a0)] [.c (.d (.b r))] := by
  refine fn_in Try.func48 rfl (by kernel_rfl) Try.ntmps48 rfl rfl rfl ?_
  refine wk ?_
  obtain ⟨r1, hr1, H⟩ := ob H
  refine awr_n rfl (ca rfl rfl rfl (iInRange_c hr1) trivial rfl rfl rfl rfl) ?_
  refine wk ?_
  obtain ⟨v2, Hj, H⟩ := ob H
  refine awr_join ⟨[(2, tB v2)], [], 0⟩ ?_ ?_
  · have H := Hj
    refine wk ?_
    refine g2 rfl rfl rfl (fun h => ?_) (fun h => ?_)
    · have H := bt h H
      refine wk ?_
      obtain ⟨r3, hr3, H⟩ := ob H
      refine awr_ng rfl rfl rfl rfl (ca rfl rfl rfl (iInRange_c hr3) trivial rfl rfl rfl rfl) ?_
      refine wk ?_
      cases H
      exact weak_of ⟨rfl, rfl, trivial⟩ trivial
    · have H := bf h H
      refine wk ?_
      cases H
      exact weak_of ⟨rfl, rfl, trivial⟩ trivial
  refine wk ?_
  cases H
  exact fin_ret (.cons (.tmp rfl) .nil) rfl rfl rfl
def iAreValidRegistrations_L2 (a0 : List TRegistration) (v1 : Int) (x2 : TRegistration) : Int → Option (Step (Int) (Step (Int) (Bool)))
  | v8 => bif ltB v8 (((a0.take (v1).toNat).length : Nat) : Int) then (Option.bind (ix (a0.take (v1).toNat) v8) fun x9 => Option.bind (bif (eqB x9.ID.Network x2.ID.Network && (eqB x9.ID.Number x2.ID.Number && true)) then (some true) else (bif eqB x9.Network x2.Network then (some (eqB x9.TempID.Pool x2.TempID.Pool && (eqB x9.TempID.Number x2.TempID.Number && true))) else (some false))) fun (v10 : Bool) => bif v10 then (dn (dn (some false))) else (some (.next (WR (v8 + 1))))) else (dn (some (.next (WR (v1 + 1)))))
def iAreValidRegistrations_L1 (a0 : List TRegistration) : Int → Option (Step (Int) (Bool))
  | v1 => bif ltB v1 ((a0.length : Nat) : Int) then (Option.bind (ix a0 v1) fun x2 => Option.bind (iIsValidSubscriberID x2.ID) fun r3 => Option.bind (bif !r3 then (some true) else (Option.bind (iInRange x2.Network 0 3) fun r5 => bif !r5 then (some true) else (Option.bind (iInRange x2.Area 0 2) fun r6 => bif !r6 then (some true) else (Option.bind (iIsValidTempID x2.TempID) fun r7 => some (!r7))))) fun (v4 : Bool) => bif v4 then (dn (some false)) else (bif slOk a0 0 v1 then (iter (iAreValidRegistrations_L2 a0 v1 x2) FU 0) else none)) else (dn (some true))
def iAreValidRegistrations (a0 : List TRegistration) : Option Bool :=
  bif ltB 8 ((a0.length : Nat) : Int) then (some false) else (iter (iAreValidRegistrations_L1 a0) FU 0)
theorem iAreValidRegistrations_c {a0 : List TRegistration} {r : Bool} (H : iAreValidRegistrations a0 = some r) : Fn Try.prog 28 [aL (a0.map eTRegistration)] [.c (.d (.b r))] := by
  refine fn_in Try.func28 rfl (by kernel_rfl) Try.ntmps28 rfl rfl rfl ?_
  refine wk ?_
  refine awc_cond rfl (fun h => ?_) (fun h => ?_)
  · have H := bt h H
    refine wk ?_
    cases H
    exact fin_ret (.cons (.tmp rfl) .nil) rfl rfl rfl
  · have H := bf h H
    refine wk ?_
    refine awc_iter (fun (q : Int) => ⟨[(0, .v (.c (.d false (.l (a0.map eTRegistration))))), (10, .v (.c (.d false (.l (a0.map eTRegistration))))), (11, tI ((a0.length : Nat) : Int)), (12, tI q)], [], 0⟩) H (weak_of ⟨rfl, rfl, rfl, rfl, rfl, rfl, rfl, rfl, trivial⟩ trivial) ?_
    rintro v1 o H
    try dsimp only
    refine wk ?_
    refine awc_cond rfl (fun h => ?_) (fun h => ?_)
    · have H := bt h H
      refine wk ?_
      obtain ⟨x2, hx2, H⟩ := ob H
      refine awr_n rfl (xdT (enc := eTRegistration) hx2 (fun _ => rfl) rfl rfl rfl) ?_
      refine wk ?_
      obtain ⟨r3, hr3, H⟩ := ob H
      refine awr_n rfl (ca rfl rfl rfl (iIsValidSubscriberID_c hr3) trivial rfl rfl rfl rfl) ?_
      refine wk ?_
      obtain ⟨v4, Hj, H⟩ := ob H
      refine awr_join ⟨[(0, .v (.c (.d false (.l (a0.map eTRegistration))))), (3, tI v1), (4, .v (.c (.p 0 0))), (10, .v (.c (.d false (.l (a0.map eTRegistration))))), (11, tI ((a0.length : Nat) : Int)), (12, tI v1), (38, tB v4)], [(0, .var 34 [.d false (.i .i64 x2.ID.Network), .d false (.i .i64 x2.ID.Number), .d false (.i .i64 x2.Network), .d false (.i .i64 x2.Area), .d false (.i .i64 x2.TempID.Pool), .d false (.i .i64 x2.TempID.Number)])], 1⟩ ?_ ?_
      · have H := Hj
        refine wk ?_
        refine g2 rfl rfl rfl (fun h => ?_) (fun h => ?_)
        · have H := bt h H
          refine wk ?_
          cases H
          exact weak_of ⟨rfl, rfl, rfl, rfl, rfl, rfl, rfl, rfl, rfl, rfl, rfl, rfl, rfl, rfl, trivial⟩ ⟨rfl, ⟨rfl, rfl⟩, trivial⟩
        · have H := bf h H
          refine wk ?_
          obtain ⟨r5, hr5, H⟩ := ob H
          refine awr_ng rfl rfl rfl rfl (ca rfl rfl rfl (iInRange_c hr5) trivial rfl rfl rfl rfl) ?_
          refine wk ?_
          refine g2 rfl rfl rfl (fun h => ?_) (fun h => ?_)
          · have H := bt h H
            refine wk ?_
            cases H
            exact weak_of ⟨rfl, rfl, rfl, rfl, rfl, rfl, rfl, rfl, rfl, rfl, rfl, rfl, rfl, rfl, trivial⟩ ⟨rfl, ⟨rfl, rfl⟩, trivial⟩
          · have H := bf h H
            refine wk ?_
            obtain ⟨r6, hr6, H⟩ := ob H
            refine awr_ng rfl rfl rfl rfl (ca rfl rfl rfl (iInRange_c hr6) trivial rfl rfl rfl rfl) ?_
            refine wk ?_
            refine g2 rfl rfl rfl (fun h => ?_) (fun h => ?_)
            · have H := bt h H
              refine wk ?_
              cases H
              exact weak_of ⟨rfl, rfl, rfl, rfl, rfl, rfl, rfl, rfl, rfl, rfl, rfl, rfl, rfl, rfl, trivial⟩ ⟨rfl, ⟨rfl, rfl⟩, trivial⟩
            · have H := bf h H
              refine wk ?_
              obtain ⟨r7, hr7, H⟩ := ob H
              refine awr_ng rfl rfl rfl rfl (ca rfl rfl rfl (iIsValidTempID_c hr7) trivial rfl rfl rfl rfl) ?_
              refine wk ?_
              cases H
              exact weak_of ⟨rfl, rfl, rfl, rfl, rfl, rfl, rfl, rfl, rfl, rfl, rfl, rfl, rfl, rfl, trivial⟩ ⟨rfl, ⟨rfl, rfl⟩, trivial⟩
      refine wk ?_
      refine awc_cond rfl (fun h => ?_) (fun h => ?_)
      · have H := bt h H
        refine wk ?_
        obtain ⟨r0, Hd, rfl⟩ := dnE H
        refine iq_r (fun hq => ?_)
        have H := Hd.trans (congrArg some hq)
        refine wk ?_
        cases H
        exact fin_ret (.cons (.tmp rfl) .nil) rfl rfl rfl
      · have H := bf h H
        refine wk ?_
        obtain ⟨h, H⟩ := rq H
        refine awr_n rfl (cdhT (enc := eTRegistration) h (fun _ => rfl) rfl rfl rfl) ?_
        refine wk ?_
        refine awc_iter (fun (q : Int) => ⟨[(0, .v (.c (.d false (.l (a0.map eTRegistration))))), (4, .v (.c (.p 0 0))), (10, .v (.c (.d false (.l (a0.map eTRegistration))))), (11, tI ((a0.length : Nat) : Int)), (12, tI v1), (41, .v (.c (.d false (.l ((a0.take (v1).toNat).map eTRegistration))))), (42, tI (((a0.take (v1).toNat).length : Nat) : Int)), (43, tI q)], [(0, .var 34 [.d false (.i .i64 x2.ID.Network), .d false (.i .i64 x2.ID.Number), .d false (.i .i64 x2.Network), .d false (.i .i64 x2.Area), .d false (.i .i64 x2.TempID.Pool), .d false (.i .i64 x2.TempID.Number)])], 1⟩) H (weak_of ⟨rfl, rfl, rfl, rfl, rfl, rfl, rfl, rfl, rfl, rfl, rfl, rfl, rfl, rfl, rfl, rfl, trivial⟩ ⟨rfl, ⟨rfl, rfl⟩, trivial⟩) ?_
        rintro v8 o H
        try dsimp only
        refine wk ?_
        refine awc_cond rfl (fun h => ?_) (fun h => ?_)
        · have H := bt h H
          refine wk ?_
          obtain ⟨x9, hx9, H⟩ := ob H
          refine awr_n rfl (xdT (enc := eTRegistration) hx9 (fun _ => rfl) rfl rfl rfl) ?_
          refine wk ?_
          obtain ⟨v10, Hj, H⟩ := ob H
          refine awr_join ⟨[(0, .v (.c (.d false (.l (a0.map eTRegistration))))), (4, .v (.c (.p 0 0))), (10, .v (.c (.d false (.l (a0.map eTRegistration))))), (11, tI ((a0.length : Nat) : Int)), (12, tI v1), (41, .v (.c (.d false (.l ((a0.take (v1).toNat).map eTRegistration))))), (42, tI (((a0.take (v1).toNat).length : Nat) : Int)), (43, tI v8), (65, tB v10)], [(0, .var 34 [.d false (.i .i64 x2.ID.Network), .d false (.i .i64 x2.ID.Number), .d false (.i .i64 x2.Network), .d false (.i .i64 x2.Area), .d false (.i .i64 x2.TempID.Pool), .d false (.i .i64 x2.TempID.Number)])], 1⟩ ?_ ?_
          · have H := Hj
            refine wk ?_
            refine g2 rfl rfl rfl (fun h => ?_) (fun h => ?_)
            · have H := bt h H
              refine wk ?_
              cases H
              exact weak_of ⟨rfl, rfl, rfl, rfl, rfl, rfl, rfl, rfl, rfl, rfl, rfl, rfl, rfl, rfl, rfl, rfl, rfl, rfl, trivial⟩ ⟨rfl, ⟨rfl, rfl⟩, trivial⟩
            · have H := bf h H
              refine wk ?_
              refine g2 rfl rfl rfl (fun h => ?_) (fun h => ?_)
              · have H := bt h H
                refine wk ?_
                cases H
                exact weak_of ⟨rfl, rfl, rfl, rfl, rfl, rfl, rfl, rfl, rfl, rfl, rfl, rfl, rfl, rfl, rfl, rfl, rfl, rfl, trivial⟩ ⟨rfl, ⟨rfl, rfl⟩, trivial⟩
              · have H := bf h H
                refine wk ?_
                cases H
                exact weak_of ⟨rfl, rfl, rfl, rfl, rfl, rfl, rfl, rfl, rfl, rfl, rfl, rfl, rfl, rfl, rfl, rfl, rfl, rfl, trivial⟩ ⟨rfl, ⟨rfl, rfl⟩, trivial⟩
          refine wk ?_
          refine awc_cond rfl (fun h => ?_) (fun h => ?_)
          · have H := bt h H
            refine wk ?_
            obtain ⟨r0, Hd, rfl⟩ := dnE H
            refine iq_r (fun hq => ?_)
            have H := Hd.trans (congrArg some hq)
            refine wk ?_
            obtain ⟨r0, Hd, rfl⟩ := dnE H
            refine iq_r (fun hq => ?_)
            have H := Hd.trans (congrArg some hq)
            refine wk ?_
            cases H
            exact fin_ret (.cons (.tmp rfl) .nil) rfl rfl rfl
          · have H := bf h H
            refine wk ?_
            cases H
            refine iq_n ?_
            exact weak_of ⟨rfl, rfl, rfl, rfl, rfl, rfl, rfl, rfl, rfl, rfl, rfl, rfl, rfl, rfl, rfl, rfl, trivial⟩ ⟨rfl, ⟨rfl, rfl⟩, trivial⟩
        · have H := bf h H
          refine wk ?_
          obtain ⟨r0, Hd, rfl⟩ := dnE H
          refine iq_e (fun hq => ?_)
          have H := Hd.trans (congrArg some hq)
          refine wk ?_
          cases H
          refine iq_n ?_
          exact weak_of ⟨rfl, rfl, rfl, rfl, rfl, rfl, rfl, rfl, trivial⟩ trivial
    · have H := bf h H
      refine wk ?_
      obtain ⟨r0, Hd, rfl⟩ := dnE H
      refine iq_e (fun hq => ?_)
      have H := Hd.trans (congrArg some hq)
      refine wk ?_
      cases H
      exact fin_ret (.cons (.tmp rfl) .nil) rfl rfl rfl
def iFindRegistration_L1 (a0 : List TRegistration) (a1 : TSubscriberID) : Int → Option (Step (Int) (Int))
  | v1 => bif ltB v1 ((a0.length : Nat) : Int) then (Option.bind (ix a0 v1) fun x2 => bif (eqB x2.ID.Network a1.Network && (eqB x2.ID.Number a1.Number && true)) then (dn (some v1)) else (some (.next (WR (v1 + 1))))) else (dn (some (-1)))
def iFindRegistration (a0 : List TRegistration) (a1 : TSubscriberID) : Option Int :=
  iter (iFindRegistration_L1 a0 a1) FU 0
theorem iFindRegistration_c {a0 : List TRegistration} {a1 : TSubscriberID} {r : Int} (H : iFindRegistration a0 a1 = some r) : Fn Try.prog 46 [aL (a0.map eTRegistration), .agg (eTSubscriberID a1)] [.c (.d (.i .i64 r))] := by
  refine fn_in Try.func46 rfl (by kernel_rfl) Try.ntmps46 rfl rfl rfl ?_
  refine wk ?_
  refine awc_iter (fun (q : Int) => ⟨[(3, .v (.c (.p 0 0))), (7, .v (.c (.d false (.l (a0.map eTRegistration))))), (8, tI ((a0.length : Nat) : Int)), (9, tI q)], [(0, .var 30 [.d false (.i .i64 a1.Network), .d false (.i .i64 a1.Number)])], 1⟩) H (weak_of ⟨rfl, rfl, rfl, rfl, rfl, rfl, rfl, rfl, trivial⟩ ⟨rfl, ⟨rfl, rfl⟩, trivial⟩) ?_
  rintro v1 o H
  try dsimp only
  refine wk ?_
  refine awc_cond rfl (fun h => ?_) (fun h => ?_)
  · have H := bt h H
    refine wk ?_
    obtain ⟨x2, hx2, H⟩ := ob H
    refine awr_n rfl (xdT (enc := eTRegistration) hx2 (fun _ => rfl) rfl rfl rfl) ?_
    refine wk ?_
    refine awc_cond rfl (fun h => ?_) (fun h => ?_)
    · have H := bt h H
      refine wk ?_
      obtain ⟨r0, Hd, rfl⟩ := dnE H
      refine iq_r (fun hq => ?_)
      have H := Hd.trans (congrArg some hq)
      refine wk ?_
      cases H
      exact fin_ret (.cons (.tmp rfl) .nil) rfl rfl rfl
    · have H := bf h H
      refine wk ?_
      cases H
      refine iq_n ?_
      exact weak_of ⟨rfl, rfl, rfl, rfl, rfl, rfl, rfl, rfl, trivial⟩ ⟨rfl, ⟨rfl, rfl⟩, trivial⟩
  · have H := bf h H
    refine wk ?_
    obtain ⟨r0, Hd, rfl⟩ := dnE H
    refine iq_e (fun hq => ?_)
    have H := Hd.trans (congrArg some hq)
    refine wk ?_
    cases H
    exact fin_ret (.cons (.tmp rfl) .nil) rfl rfl rfl
def iRegister (a0 : List TRegistration) (a1 : TRegistration) : Option (List TRegistration × Int × Bool) :=
  Option.bind (icopyItems_impl_Registration a0) fun r1 => Option.bind (iFindRegistration r1 a1.ID) fun r2 => Option.bind (bif leB 0 r2 then (Option.bind (ix r1 r2) fun x5 => Option.bind (ix r1 r2) fun x6 => some (x5.Network, (r1.set (r2).toNat a1))) else (bif apOk 48 (r1 ++ [a1]).length then (some (-1, (r1 ++ [a1]))) else none)) fun ((v3, v4) : Int × List TRegistration) => Option.bind (iAreValidRegistrations v4) fun r7 => bif !r7 then (Option.bind (icopyItems_impl_Registration a0) fun r8 => some (r8, -1, false)) else (some (v4, v3, true))
theorem iRegister_c {a0 : List TRegistration} {a1 : TRegistration} {r : List TRegistration × Int × Bool} (H : iRegister a0 a1 = some r) : Fn Try.prog 44 [aL (a0.map eTRegistration), .agg (eTRegistration a1)] [.c (.own 34 6 (r.1.map eTRegistration) r.1.length), .c (.d (.i .i64 r.2.1)), .c (.d (.b r.2.2))] := by
  refine fn_in Try.func44 rfl (by kernel_rfl) Try.ntmps44 rfl rfl rfl ?_
  refine wk ?_
  obtain ⟨r1, hr1, H⟩ := ob H
  refine awr_n rfl (ca rfl rfl rfl (icopyItems_impl_Registration_c hr1) trivial rfl rfl rfl rfl) ?_
  refine wk ?_
  obtain ⟨r2, hr2, H⟩ := ob H
  refine awr_n rfl (ca rfl rfl rfl (iFindRegistration_c hr2) ⟨by first | rfl | exact lm _, trivial⟩ rfl rfl rfl rfl) ?_
  refine wk ?_
  obtain ⟨⟨v3, v4⟩, Hj, H⟩ := ob H
  refine awc_join ⟨[(0, .v (.c (.d false (.l (a0.map eTRegistration))))), (7, .v (.c (.w 1 v4.length))), (8, tI v3)], [(1, .row 34 6 (v4.map eTRegistration) true true)], 2⟩ ?_ ?_
  · have H := Hj
    refine wk ?_
    refine awc_cond rfl (fun h => ?_) (fun h => ?_)
    · have H := bt h H
      refine wk ?_
      obtain ⟨x5, hx5, H⟩ := ob H
      refine awr_n rfl (xwT hx5 (by first | rfl | simp) rfl rfl rfl) ?_
      refine wk ?_
      refine awr_n rfl (oe rfl rfl rfl (ix_map eTRegistration hx5) rfl) ?_
      refine wk ?_
      obtain ⟨x6, hx6, H⟩ := ob H
      refine awr_n rfl (xwT hx6 (by first | rfl | simp) rfl rfl rfl) ?_
      refine wk ?_
      refine awr_step rfl (soT (enc := eTRegistration) (a' := a1) hx6 rfl rfl rfl rfl rfl rfl rfl) ?_
      refine wk ?_
      cases H
      exact weak_of ⟨rfl, rfl, wn rfl (by first | rfl | simp), rfl, rfl, rfl, trivial⟩ ⟨rfl, ⟨rfl, rfl⟩, trivial⟩
    · have H := bf h H
      refine wk ?_
      obtain ⟨h, H⟩ := rq H
      refine awr_step rfl (apT (enc := eTRegistration) (ys := r1) (zs := [a1]) h rfl (fun _ => rfl) (by first | rfl | simp) (.w rfl (by first | rfl | exact lm _ | simp)) rfl rfl rfl rfl rfl rfl rfl rfl) ?_
      refine wk ?_
      cases H
      exact weak_of ⟨rfl, rfl, wn rfl (by first | rfl | simp), rfl, rfl, rfl, trivial⟩ ⟨rfl, ⟨rfl, rfl⟩, trivial⟩
  refine wk ?_
  obtain ⟨r7, hr7, H⟩ := ob H
  refine awr_n rfl (ca rfl rfl rfl (iAreValidRegistrations_c hr7) ⟨by first | rfl | exact lm _, trivial⟩ rfl rfl rfl rfl) ?_
  refine wk ?_
  refine awc_cond rfl (fun h => ?_) (fun h => ?_)
  · have H := bt h H
    refine wk ?_
    obtain ⟨r8, hr8, H⟩ := ob H
    refine awr_n rfl (ca rfl rfl rfl (icopyItems_impl_Registration_c hr8) trivial rfl rfl rfl rfl) ?_
    refine wk ?_
    cases H
    exact fin_ret (.cons (.tmp rfl) (.cons (.tmp rfl) (.cons (.tmp rfl) .nil))) rfl rfl (by first | rfl | simp)
  · have H := bf h H
    refine wk ?_
    cases H
    exact fin_ret (.cons (.tmp rfl) (.cons (.tmp rfl) (.cons (.tmp rfl) .nil))) rfl rfl (by first | rfl | simp)
def iRegisterRoaming (a0 : List TRegistration) (a1 : TSubscription) (a2 : List TRoamingAgreement) (a3 : TSubscriberID) (a4 : Int) (a5 : Int) (a6 : Int) : Option TRoamingResult :=
  Option.bind (iCheckRoaming a1 a2 a3 a4) fun r1 => bif !eqB r1 0 then (Option.bind (irefuseRoaming a0 r1) fun r2 => some r2) else (Option.bind (iTempIDsIn a0 a4) fun r3 => Option.bind (iAllocateTempID a6 a4 a3 r3) fun r4 => bif !r4.2 then (Option.bind (irefuseRoaming a0 4) fun r5 => some r5) else (Option.bind (iRegister a0 (⟨a3, a4, a5, r4.1⟩ : TRegistration)) fun r6 => bif !r6.2.2 then (Option.bind (irefuseRoaming a0 5) fun r7 => some r7) else (Option.bind (bif eqB r6.2.1 a4 then (some (-1)) else (some r6.2.1)) fun (v8 : Int) => some (⟨0, r6.1, v8, r4.1⟩ : TRoamingResult))))
theorem iRegisterRoaming_c {a0 : List TRegistration} {a1 : TSubscription} {a2 : List TRoamingAgreement} {a3 : TSubscriberID} {a4 : Int} {a5 : Int} {a6 : Int} {r : TRoamingResult} (H : iRegisterRoaming a0 a1 a2 a3 a4 a5 a6 = some r) : Fn Try.prog 23 [aL (a0.map eTRegistration), .agg (eTSubscription a1), aL (a2.map eTRoamingAgreement), .agg (eTSubscriberID a3), aI a4, aI a5, aI a6] [.agg [.d (.i .i64 r.Code), .own 34 6 (r.Registrations.map eTRegistration) r.Registrations.length, .d (.i .i64 r.Cancelled), .d (.i .i64 r.TempID.Pool), .d (.i .i64 r.TempID.Number)]] := by
  refine fn_in Try.func23 rfl (by kernel_rfl) Try.ntmps23 rfl rfl rfl ?_
  refine wkz ?_
  obtain ⟨r1, hr1, H⟩ := ob H
  refine awr_n rfl (ca rfl rfl rfl (iCheckRoaming_c hr1) trivial rfl rfl rfl rfl) ?_
  refine wkz ?_
  refine awc_cond rfl (fun h => ?_) (fun h => ?_)
  · have H := bt h H
    refine wkz ?_
    obtain ⟨r2, hr2, H⟩ := ob H
    refine awr_n rfl (ca rfl rfl rfl (irefuseRoaming_c hr2) trivial rfl rfl rfl rfl) ?_
    refine wkz ?_
    cases H
    exact fin_ret (.cons (.cell rfl rfl rfl) .nil) rfl rfl (by first | rfl | simp)
  · have H := bf h H
    refine wkz ?_
    refine awc_dz [0, 1, 2, 3, 4, 5, 6, 7, 8, 9, 10, 11, 12] Try.follows (by kernel_rfl) (by kernel_rfl) rfl ?_
    refine wkz ?_
    obtain ⟨r3, hr3, H⟩ := ob H
    refine dz_n rfl (ca rfl rfl rfl (iTempIDsIn_c hr3) trivial rfl rfl rfl rfl) ?_
    refine wkz ?_
    obtain ⟨r4, hr4, H⟩ := ob H
    refine dz_n rfl (ca rfl rfl rfl (iAllocateTempID_c hr4) ⟨by first | rfl | exact lm _, trivial⟩ rfl rfl rfl rfl) ?_
    refine wkz ?_
    refine dz_w rfl (spx 100040 rfl rfl rfl rfl rfl rfl rfl rfl) ?_
    refine wkz ?_
    refine awc_cond rfl (fun h => ?_) (fun h => ?_)
    · have H := bt h H
      refine wkz ?_
      obtain ⟨r5, hr5, H⟩ := ob H
      refine awr_n rfl (ca rfl rfl rfl (irefuseRoaming_c hr5) trivial rfl rfl rfl rfl) ?_
      refine wkz ?_
      cases H
      exact fin_ret (.cons (.cell rfl rfl rfl) .nil) rfl rfl (by first | rfl | simp)
    · have H := bf h H
      refine wkz ?_
      obtain ⟨r6, hr6, H⟩ := ob H
      refine awr_n rfl (ca rfl rfl rfl (iRegister_c hr6) trivial rfl rfl rfl rfl) ?_
      refine wkz ?_
      refine awc_cond rfl (fun h => ?_) (fun h => ?_)
      · have H := bt h H
        refine wkz ?_
        obtain ⟨r7, hr7, H⟩ := ob H
        refine awr_n rfl (ca rfl rfl rfl (irefuseRoaming_c hr7) trivial rfl rfl rfl rfl) ?_
        refine wkz ?_
        cases H
        exact fin_ret (.cons (.cell rfl rfl rfl) .nil) rfl rfl (by first | rfl | simp)
      · have H := bf h H
        refine wkz ?_
        obtain ⟨v8, Hj, H⟩ := ob H
        refine awc_join ⟨[(14, .v (.c (.p 2 0))), (16, .v (.c (.p 4 0))), (19, .v (.c (.w 6 r6.1.length))), (20, tI v8)], [(2, .var 57 [.d false (.i .i64 0), .nil, .d false (.i .i64 0), .d false (.i .i64 0), .d false (.i .i64 0)]), (4, .var 32 [.d false (.i .i64 r4.1.Pool), .d false (.i .i64 r4.1.Number)]), (6, .row 34 6 (r6.1.map eTRegistration) true true)], 7⟩ ?_ ?_
        · have H := Hj
          refine wkz ?_
          refine awc_cond rfl (fun h => ?_) (fun h => ?_)
          · have H := bt h H
            refine wkz ?_
            cases H
            exact weak_of ⟨rfl, rfl, rfl, rfl, wn rfl (by first | rfl | simp), rfl, rfl, rfl, trivial⟩ ⟨rfl, ⟨rfl, rfl⟩, rfl, ⟨rfl, rfl⟩, rfl, ⟨rfl, rfl⟩, trivial⟩
          · have H := bf h H
            refine wkz ?_
            cases H
            exact weak_of ⟨rfl, rfl, rfl, rfl, wn rfl (by first | rfl | simp), rfl, rfl, rfl, trivial⟩ ⟨rfl, ⟨rfl, rfl⟩, rfl, ⟨rfl, rfl⟩, rfl, ⟨rfl, rfl⟩, trivial⟩
        refine wkz ?_
        cases H
        exact fin_ret (.cons (.cell rfl rfl rfl) .nil) rfl rfl (by first | rfl | simp)
def iResolveTempID_L1 (a0 : List TRegistration) (a1 : Int) (a2 : TTempID) : Int → Option (Step (Int) (TSubscriberID × Bool))
  | v1 => bif ltB v1 ((a0.length : Nat) : Int) then (Option.bind (ix a0 v1) fun x2 => Option.bind (bif eqB x2.Network a1 then (some (eqB x2.TempID.Pool a2.Pool && (eqB x2.TempID.Number a2.Number && true))) else (some false)) fun (v3 : Bool) => bif v3 then (dn (some (x2.ID, true))) else (some (.next (WR (v1 + 1))))) else (dn (some ((⟨0, 0⟩ : TSubscriberID), false)))
def iResolveTempID (a0 : List TRegistration) (a1 : Int) (a2 : TTempID) : Option (TSubscriberID × Bool) :=
  iter (iResolveTempID_L1 a0 a1 a2) FU 0
theorem iResolveTempID_c {a0 : List TRegistration} {a1 : Int} {a2 : TTempID} {r : TSubscriberID × Bool} (H : iResolveTempID a0 a1 a2 = some r) : Fn Try.prog 26 [aL (a0.map eTRegistration), aI a1, .agg (eTTempID a2)] [.agg [.d (.i .i64 r.1.Network), .d (.i .i64 r.1.Number)], .c (.d (.b r.2))] := by
  refine fn_in Try.func26 rfl (by kernel_rfl) Try.ntmps26 rfl rfl rfl ?_
  refine wk ?_
  refine awc_iter (fun (q : Int) => ⟨[(1, tI a1), (5, .v (.c (.p 0 0))), (6, .v (.c (.p 1 0))), (10, .v (.c (.d false (.l (a0.map eTRegistration))))), (11, tI ((a0.length : Nat) : Int)), (12, tI q)], [(0, .var 32 [.d false (.i .i64 a2.Pool), .d false (.i .i64 a2.Number)]), (1, .var 30 [.d false (.i .i64 0), .d false (.i .i64 0)])], 2⟩) H (weak_of ⟨rfl, rfl, rfl, rfl, rfl, rfl, rfl, rfl, rfl, rfl, rfl, rfl, trivial⟩ ⟨rfl, ⟨rfl, rfl⟩, rfl, ⟨rfl, rfl⟩, trivial⟩) ?_
  rintro v1 o H
  try dsimp only
  refine wk ?_
  refine awc_cond rfl (fun h => ?_) (fun h => ?_)
  · have H := bt h H
    refine wk ?_
    obtain ⟨x2, hx2, H⟩ := ob H
    refine awr_n rfl (xdT (enc := eTRegistration) hx2 (fun _ => rfl) rfl rfl rfl) ?_
    refine wk ?_
    obtain ⟨v3, Hj, H⟩ := ob H
    refine awr_join ⟨[(1, tI a1), (5, .v (.c (.p 0 0))), (6, .v (.c (.p 1 0))), (9, .v (.c (.p 2 0))), (10, .v (.c (.d false (.l (a0.map eTRegistration))))), (11, tI ((a0.length : Nat) : Int)), (12, tI v1), (25, tB v3)], [(0, .var 32 [.d false (.i .i64 a2.Pool), .d false (.i .i64 a2.Number)]), (1, .var 30 [.d false (.i .i64 0), .d false (.i .i64 0)]), (2, .var 34 [.d false (.i .i64 x2.ID.Network), .d false (.i .i64 x2.ID.Number), .d false (.i .i64 x2.Network), .d false (.i .i64 x2.Area), .d false (.i .i64 x2.TempID.Pool), .d false (.i .i64 x2.TempID.Number)])], 3⟩ ?_ ?_
    · have H := Hj
      refine wk ?_
      refine g2 rfl rfl rfl (fun h => ?_) (fun h => ?_)
      · have H := bt h H
        refine wk ?_
        cases H
        exact weak_of ⟨rfl, rfl, rfl, rfl, rfl, rfl, rfl, rfl, rfl, rfl, rfl, rfl, rfl, rfl, rfl, rfl, trivial⟩ ⟨rfl, ⟨rfl, rfl⟩, rfl, ⟨rfl, rfl⟩, rfl, ⟨rfl, rfl⟩, trivial⟩
      · have H := bf h H
        refine wk ?_
        cases H
        exact weak_of ⟨rfl, rfl, rfl, rfl, rfl, rfl, rfl, rfl, rfl, rfl, rfl, rfl, rfl, rfl, rfl, rfl, trivial⟩ ⟨rfl, ⟨rfl, rfl⟩, rfl, ⟨rfl, rfl⟩, rfl, ⟨rfl, rfl⟩, trivial⟩
    refine wk ?_
    refine awc_cond rfl (fun h => ?_) (fun h => ?_)
    · have H := bt h H
      refine wk ?_
      obtain ⟨r0, Hd, rfl⟩ := dnE H
      refine iq_r (fun hq => ?_)
      have H := Hd.trans (congrArg some hq)
      refine wk ?_
      cases H
      exact fin_ret (.cons (.cell rfl rfl rfl) (.cons (.tmp rfl) .nil)) rfl rfl rfl
    · have H := bf h H
      refine wk ?_
      cases H
      refine iq_n ?_
      exact weak_of ⟨rfl, rfl, rfl, rfl, rfl, rfl, rfl, rfl, rfl, rfl, rfl, rfl, trivial⟩ ⟨rfl, ⟨rfl, rfl⟩, rfl, ⟨rfl, rfl⟩, trivial⟩
  · have H := bf h H
    refine wk ?_
    obtain ⟨r0, Hd, rfl⟩ := dnE H
    refine iq_e (fun hq => ?_)
    have H := Hd.trans (congrArg some hq)
    refine wk ?_
    cases H
    exact fin_ret (.cons (.cell rfl rfl rfl) (.cons (.tmp rfl) .nil)) rfl rfl rfl
def iMayLocate (a0 : List TRegistration) (a1 : Int) (a2 : TSubscriberID) : Option Bool :=
  bif eqB a1 a2.Network then (some true) else (Option.bind (iFindRegistration a0 a2) fun r1 => Option.bind (bif leB 0 r1 then (Option.bind (ix a0 r1) fun x3 => some (eqB x3.Network a1)) else (some false)) fun (v2 : Bool) => some v2)
theorem iMayLocate_c {a0 : List TRegistration} {a1 : Int} {a2 : TSubscriberID} {r : Bool} (H : iMayLocate a0 a1 a2 = some r) : Fn Try.prog 47 [aL (a0.map eTRegistration), aI a1, .agg (eTSubscriberID a2)] [.c (.d (.b r))] := by
  refine fn_in Try.func47 rfl (by kernel_rfl) Try.ntmps47 rfl rfl rfl ?_
  refine wk ?_
  refine awc_cond rfl (fun h => ?_) (fun h => ?_)
  · have H := bt h H
    refine wk ?_
    cases H
    exact fin_ret (.cons (.tmp rfl) .nil) rfl rfl rfl
  · have H := bf h H
    refine wk ?_
    obtain ⟨r1, hr1, H⟩ := ob H
    refine awr_n rfl (ca rfl rfl rfl (iFindRegistration_c hr1) trivial rfl rfl rfl rfl) ?_
    refine wk ?_
    obtain ⟨v2, Hj, H⟩ := ob H
    refine awr_join ⟨[(6, tB v2)], [], 0⟩ ?_ ?_
    · have H := Hj
      refine wk ?_
      refine g2 rfl rfl rfl (fun h => ?_) (fun h => ?_)
      · have H := bt h H
        refine wk ?_
        obtain ⟨x3, hx3, H⟩ := ob H
        refine awr_ng rfl rfl rfl rfl (xdT (enc := eTRegistration) hx3 (fun _ => rfl) rfl rfl rfl) ?_
        refine wk ?_
        cases H
        exact weak_of ⟨rfl, rfl, trivial⟩ trivial
      · have H := bf h H
        refine wk ?_
        cases H
        exact weak_of ⟨rfl, rfl, trivial⟩ trivial
    refine wk ?_
    cases H
    exact fin_ret (.cons (.tmp rfl) .nil) rfl rfl rfl
def iLocateArea (a0 : List TRegistration) (a1 : Int) (a2 : TSubscriberID) : Option (Int × Bool) :=
  Option.bind (iFindRegistration a0 a2) fun r1 => Option.bind (bif ltB r1 0 then (some true) else (Option.bind (iMayLocate a0 a1 a2) fun r3 => some (!r3))) fun (v2 : Bool) => bif v2 then (some (-1, false)) else (Option.bind (ix a0 r1) fun x4 => some (x4.Area, true))
theorem iLocateArea_c {a0 : List TRegistration} {a1 : Int} {a2 : TSubscriberID} {r : Int × Bool} (H : iLocateArea a0 a1 a2 = some r) : Fn Try.prog 27 [aL (a0.map eTRegistration), aI a1, .agg (eTSubscriberID a2)] [.c (.d (.i .i64 r.1)), .c (.d (.b r.2))] := by
  refine fn_in Try.func27 rfl (by kernel_rfl) Try.ntmps27 rfl rfl rfl ?_
  refine wk ?_
  obtain ⟨r1, hr1, H⟩ := ob H
  refine awr_n rfl (ca rfl rfl rfl (iFindRegistration_c hr1) trivial rfl rfl rfl rfl) ?_
  refine wk ?_
  obtain ⟨v2, Hj, H⟩ := ob H
  refine awr_join ⟨[(0, .v (.c (.d false (.l (a0.map eTRegistration))))), (8, tI r1), (20, tB v2)], [], 0⟩ ?_ ?_
  · have H := Hj
    refine wk ?_
    refine g2 rfl rfl rfl (fun h => ?_) (fun h => ?_)
    · have H := bt h H
      refine wk ?_
      cases H
      exact weak_of ⟨rfl, rfl, rfl, rfl, rfl, rfl, trivial⟩ trivial
    · have H := bf h H
      refine wk ?_
      obtain ⟨r3, hr3, H⟩ := ob H
      refine awr_ng rfl rfl rfl rfl (ca rfl rfl rfl (iMayLocate_c hr3) trivial rfl rfl rfl rfl) ?_
      refine wk ?_
      cases H
      exact weak_of ⟨rfl, rfl, rfl, rfl, rfl, rfl, trivial⟩ trivial
  refine wk ?_
  refine awc_cond rfl (fun h => ?_) (fun h => ?_)
  · have H := bt h H
    refine wk ?_
    cases H
    exact fin_ret (.cons (.tmp rfl) (.cons (.tmp rfl) .nil)) rfl rfl rfl
  · have H := bf h H
    refine wk ?_
    obtain ⟨x4, hx4, H⟩ := ob H
    refine awr_n rfl (xdT (enc := eTRegistration) hx4 (fun _ => rfl) rfl rfl rfl) ?_
    refine wk ?_
    cases H
    exact fin_ret (.cons (.tmp rfl) (.cons (.tmp rfl) .nil)) rfl rfl rfl
end Go.AM
