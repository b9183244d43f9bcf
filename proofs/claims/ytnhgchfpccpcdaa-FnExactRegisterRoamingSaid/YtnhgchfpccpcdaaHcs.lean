/-
  Own text: a part of the abstract machine for this seat (Hcs). No statement is proved here.
-/
import Derived.Test.YtnhgchfpccpcdaaHci
set_option linter.unusedVariables false
namespace Go.AM
open Go.Proofs
attribute [local irreducible] AWN NS AWO AWR AWC DR Weak iterQ
set_option maxRecDepth 100000
set_option maxHeartbeats 4000000
def sl1In (a0 : Int) (a1 : Int) (a2 : Int) : Option Bool :=
  Option.bind (bif leB a1 a0 then (some (leB a0 a2)) else (some false)) fun (v1 : Bool) => some v1
theorem sl1In_c {a0 : Int} {a1 : Int} {a2 : Int} {r : Bool} (H : sl1In a0 a1 a2 = some r) : Fn Try.prog 90 [aI a0, aI a1, aI a2] [.c (.d (.b r))] := by
  refine fn_in Try.func90 rfl (by kernel_rfl) Try.ntmps90 rfl rfl rfl ?_
  refine wk ?_
  obtain ⟨v1, Hj, H⟩ := ob H
  refine awr_join ⟨[(6, tB v1)], [], 0⟩ ?_ ?_
  · have H := Hj
    refine wk ?_
    refine g2 rfl rfl rfl (fun h => ?_) (fun h => ?_)
    · have H := bt h H
      refine wk ?_
      cases H
      exact weak_of ⟨rfl, rfl, trivial⟩ trivial
    · have H := bf h H
      refine wk ?_
      cases H
      exact weak_of ⟨rfl, rfl, trivial⟩ trivial
  refine wk ?_
  cases H
  exact fin_ret (.cons (.tmp rfl) .nil) rfl rfl rfl
def sIsValidSubscriberID (a0 : TSubscriberID) : Option Bool :=
  Option.bind (sl1In a0.Network 0 3) fun r1 => Option.bind (bif r1 then (Option.bind (sl1In a0.Number 0 99) fun r3 => some r3) else (some false)) fun (v2 : Bool) => some v2
theorem sIsValidSubscriberID_c {a0 : TSubscriberID} {r : Bool} (H : sIsValidSubscriberID a0 = some r) : Fn Try.prog 29 [.agg (eTSubscriberID a0)] [.c (.d (.b r))] := by
  refine fn_in Try.func29 rfl (by kernel_rfl) Try.ntmps29 rfl rfl rfl ?_
  refine wk ?_
  obtain ⟨r1, hr1, H⟩ := ob H
  refine awr_n rfl (ca rfl rfl rfl (sl1In_c hr1) trivial rfl rfl rfl rfl) ?_
  refine wk ?_
  obtain ⟨v2, Hj, H⟩ := ob H
  refine awr_join ⟨[(2, tB v2)], [], 0⟩ ?_ ?_
  · have H := Hj
    refine wk ?_
    refine g2 rfl rfl rfl (fun h => ?_) (fun h => ?_)
    · have H := bt h H
      refine wk ?_
      obtain ⟨r3, hr3, H⟩ := ob H
      refine awr_ng rfl rfl rfl rfl (ca rfl rfl rfl (sl1In_c hr3) trivial rfl rfl rfl rfl) ?_
      refine wk ?_
      cases H
      exact weak_of ⟨rfl, rfl, trivial⟩ trivial
    · have H := bf h H
      refine wk ?_
      cases H
      exact weak_of ⟨rfl, rfl, trivial⟩ trivial
  refine wk ?_
  cases H
  exact fin_ret (.cons (.tmp rfl) .nil) rfl rfl rfl
def sFindAgreement_L1 (a0 : List TRoamingAgreement) (a1 : Int) (a2 : Int) : Int → Option (Step (Int) (Int))
  | v1 => bif ltB v1 ((a0.length : Nat) : Int) then (Option.bind (ix a0 v1) fun x2 => Option.bind (bif eqB x2.Home a1 then (Option.bind (ix a0 v1) fun x4 => some (eqB x4.Visited a2)) else (some false)) fun (v3 : Bool) => bif v3 then (dn (some v1)) else (some (.next (WR (v1 + 1))))) else (dn (some (-1)))
def sFindAgreement (a0 : List TRoamingAgreement) (a1 : Int) (a2 : Int) : Option Int :=
  iter (sFindAgreement_L1 a0 a1 a2) FU 0
theorem sFindAgreement_c {a0 : List TRoamingAgreement} {a1 : Int} {a2 : Int} {r : Int} (H : sFindAgreement a0 a1 a2 = some r) : Fn Try.prog 34 [aL (a0.map eTRoamingAgreement), aI a1, aI a2] [.c (.d (.i .i64 r))] := by
  refine fn_in Try.func34 rfl (by kernel_rfl) Try.ntmps34 rfl rfl rfl ?_
  refine wk ?_
  refine awc_iter (fun (q : Int) => ⟨[(0, .v (.c (.d false (.l (a0.map eTRoamingAgreement))))), (1, tI a1), (2, tI a2), (7, tI q)], [], 0⟩) H (weak_of ⟨rfl, rfl, rfl, rfl, rfl, rfl, rfl, rfl, trivial⟩ trivial) ?_
  rintro v1 o H
  try dsimp only
  refine wk ?_
  refine awc_cond rfl (fun h => ?_) (fun h => ?_)
  · have H := bt h H
    refine wk ?_
    obtain ⟨x2, hx2, H⟩ := ob H
    refine awr_n rfl (xdT (enc := eTRoamingAgreement) hx2 (fun _ => rfl) rfl rfl rfl) ?_
    refine wk ?_
    obtain ⟨v3, Hj, H⟩ := ob H
    refine awr_join ⟨[(0, .v (.c (.d false (.l (a0.map eTRoamingAgreement))))), (1, tI a1), (2, tI a2), (7, tI v1), (29, tB v3)], [], 0⟩ ?_ ?_
    · have H := Hj
      refine wk ?_
      refine g2 rfl rfl rfl (fun h => ?_) (fun h => ?_)
      · have H := bt h H
        refine wk ?_
        obtain ⟨x4, hx4, H⟩ := ob H
        refine awr_ng rfl rfl rfl rfl (xdT (enc := eTRoamingAgreement) hx4 (fun _ => rfl) rfl rfl rfl) ?_
        refine wk ?_
        cases H
        exact weak_of ⟨rfl, rfl, rfl, rfl, rfl, rfl, rfl, rfl, rfl, rfl, trivial⟩ trivial
      · have H := bf h H
        refine wk ?_
        cases H
        exact weak_of ⟨rfl, rfl, rfl, rfl, rfl, rfl, rfl, rfl, rfl, rfl, trivial⟩ trivial
    refine wk ?_
    refine awc_cond rfl (fun h => ?_) (fun h => ?_)
    · have H := bt h H
      refine wk ?_
      obtain ⟨r0, Hd, rfl⟩ := dnE H
      refine iq_r (fun hq => ?_)
      have H := Hd.trans (congrArg some hq)
      refine wk ?_
      cases H
      exact fin_ret (.cons (.tmp rfl) .nil) rfl rfl rfl
    · have H := bf h H
      refine wk ?_
      cases H
      refine iq_n ?_
      exact weak_of ⟨rfl, rfl, rfl, rfl, rfl, rfl, rfl, rfl, trivial⟩ trivial
  · have H := bf h H
    refine wk ?_
    obtain ⟨r0, Hd, rfl⟩ := dnE H
    refine iq_e (fun hq => ?_)
    have H := Hd.trans (congrArg some hq)
    refine wk ?_
    cases H
    exact fin_ret (.cons (.tmp rfl) .nil) rfl rfl rfl
def sIsValidAgreement (a0 : TRoamingAgreement) : Option Bool :=
  Option.bind (sl1In a0.Home 0 3) fun r1 => Option.bind (bif r1 then (Option.bind (sl1In a0.Visited 0 3) fun r3 => bif r3 then (bif !eqB a0.Home a0.Visited then (Option.bind (sl1In a0.Price 0 1000) fun r4 => bif r4 then (Option.bind (sl1In a0.Cap 0 1000000000000) fun r5 => some r5) else (some false)) else (some false)) else (some false)) else (some false)) fun (v2 : Bool) => some v2
theorem sIsValidAgreement_c {a0 : TRoamingAgreement} {r : Bool} (H : sIsValidAgreement a0 = some r) : Fn Try.prog 35 [.agg (eTRoamingAgreement a0)] [.c (.d (.b r))] := by
  refine fn_in Try.func35 rfl (by kernel_rfl) Try.ntmps35 rfl rfl rfl ?_
  refine wk ?_
  obtain ⟨r1, hr1, H⟩ := ob H
  refine awr_n rfl (ca rfl rfl rfl (sl1In_c hr1) trivial rfl rfl rfl rfl) ?_
  refine wk ?_
  obtain ⟨v2, Hj, H⟩ := ob H
  refine awr_join ⟨[(2, tB v2)], [], 0⟩ ?_ ?_
  · have H := Hj
    refine wk ?_
    refine g2 rfl rfl rfl (fun h => ?_) (fun h => ?_)
    · have H := bt h H
      refine wk ?_
      obtain ⟨r3, hr3, H⟩ := ob H
      refine awr_ng rfl rfl rfl rfl (ca rfl rfl rfl (sl1In_c hr3) trivial rfl rfl rfl rfl) ?_
      refine wk ?_
      refine g2 rfl rfl rfl (fun h => ?_) (fun h => ?_)
      · have H := bt h H
        refine wk ?_
        refine g2 rfl rfl rfl (fun h => ?_) (fun h => ?_)
        · have H := bt h H
          refine wk ?_
          obtain ⟨r4, hr4, H⟩ := ob H
          refine awr_ng rfl rfl rfl rfl (ca rfl rfl rfl (sl1In_c hr4) trivial rfl rfl rfl rfl) ?_
          refine wk ?_
          refine g2 rfl rfl rfl (fun h => ?_) (fun h => ?_)
          · have H := bt h H
            refine wk ?_
            obtain ⟨r5, hr5, H⟩ := ob H
            refine awr_ng rfl rfl rfl rfl (ca rfl rfl rfl (sl1In_c hr5) trivial rfl rfl rfl rfl) ?_
            refine wk ?_
            cases H
            exact weak_of ⟨rfl, rfl, trivial⟩ trivial
          · have H := bf h H
            refine wk ?_
            cases H
            exact weak_of ⟨rfl, rfl, trivial⟩ trivial
        · have H := bf h H
          refine wk ?_
          cases H
          exact weak_of ⟨rfl, rfl, trivial⟩ trivial
      · have H := bf h H
        refine wk ?_
        cases H
        exact weak_of ⟨rfl, rfl, trivial⟩ trivial
    · have H := bf h H
      refine wk ?_
      cases H
      exact weak_of ⟨rfl, rfl, trivial⟩ trivial
  refine wk ?_
  cases H
  exact fin_ret (.cons (.tmp rfl) .nil) rfl rfl rfl
def sl10Has_L1 (a0 : List Int) (a1 : Int) : Int → Option (Step (Int) (Bool))
  | v1 => bif ltB v1 ((a0.length : Nat) : Int) then (Option.bind (ix a0 v1) fun x2 => bif eqB x2 a1 then (dn (some true)) else (some (.next (WR (v1 + 1))))) else (dn (some false))
def sl10Has (a0 : List Int) (a1 : Int) : Option Bool :=
  iter (sl10Has_L1 a0 a1) FU 0
theorem sl10Has_c {a0 : List Int} {a1 : Int} {r : Bool} (H : sl10Has a0 a1 = some r) : Fn Try.prog 149 [aL (a0.map eI), aI a1] [.c (.d (.b r))] := by
  refine fn_in Try.func149 rfl (by kernel_rfl) Try.ntmps149 rfl rfl rfl ?_
  refine wk ?_
  refine awc_iter (fun (q : Int) => ⟨[(0, .v (.c (.d false (.l (a0.map eI))))), (1, tI a1), (5, tI q)], [], 0⟩) H (weak_of ⟨rfl, rfl, rfl, rfl, rfl, rfl, trivial⟩ trivial) ?_
  rintro v1 o H
  try dsimp only
  refine wk ?_
  refine awc_cond rfl (fun h => ?_) (fun h => ?_)
  · have H := bt h H
    refine wk ?_
    obtain ⟨x2, hx2, H⟩ := ob H
    refine awr_n rfl (xdT (enc := eI) hx2 (fun _ => rfl) rfl rfl rfl) ?_
    refine wk ?_
    refine awc_cond rfl (fun h => ?_) (fun h => ?_)
    · have H := bt h H
      refine wk ?_
      obtain ⟨r0, Hd, rfl⟩ := dnE H
      refine iq_r (fun hq => ?_)
      have H := Hd.trans (congrArg some hq)
      refine wk ?_
      cases H
      exact fin_ret (.cons (.tmp rfl) .nil) rfl rfl rfl
    · have H := bf h H
      refine wk ?_
      cases H
      refine iq_n ?_
      exact weak_of ⟨rfl, rfl, rfl, rfl, rfl, rfl, trivial⟩ trivial
  · have H := bf h H
    refine wk ?_
    obtain ⟨r0, Hd, rfl⟩ := dnE H
    refine iq_e (fun hq => ?_)
    have H := Hd.trans (congrArg some hq)
    refine wk ?_
    cases H
    exact fin_ret (.cons (.tmp rfl) .nil) rfl rfl rfl
def sRoamingAllowed (a0 : TSubscription) (a1 : Int) (a2 : Int) : Option Bool :=
  Option.bind (bif eqB a2 a1 then (some true) else (Option.bind (sl10Has a0.RoamingNetworks a2) fun r2 => some r2)) fun (v1 : Bool) => some v1
theorem sRoamingAllowed_c {a0 : TSubscription} {a1 : Int} {a2 : Int} {r : Bool} (H : sRoamingAllowed a0 a1 a2 = some r) : Fn Try.prog 105 [.agg (eTSubscription a0), aI a1, aI a2] [.c (.d (.b r))] := by
  refine fn_in Try.func105 rfl (by kernel_rfl) Try.ntmps105 rfl rfl rfl ?_
  refine wk ?_
  obtain ⟨v1, Hj, H⟩ := ob H
  refine awr_join ⟨[(6, tB v1)], [], 0⟩ ?_ ?_
  · have H := Hj
    refine wk ?_
    refine g2 rfl rfl rfl (fun h => ?_) (fun h => ?_)
    · have H := bt h H
      refine wk ?_
      cases H
      exact weak_of ⟨rfl, rfl, trivial⟩ trivial
    · have H := bf h H
      refine wk ?_
      obtain ⟨r2, hr2, H⟩ := ob H
      refine awr_ng rfl rfl rfl rfl (ca rfl rfl rfl (sl10Has_c hr2) trivial rfl rfl rfl rfl) ?_
      refine wk ?_
      cases H
      exact weak_of ⟨rfl, rfl, trivial⟩ trivial
  refine wk ?_
  cases H
  exact fin_ret (.cons (.tmp rfl) .nil) rfl rfl rfl
def sCheckRoaming (a0 : TSubscription) (a1 : List TRoamingAgreement) (a2 : TSubscriberID) (a3 : Int) : Option Int :=
  Option.bind (sFindAgreement a1 a2.Network a3) fun r1 => Option.bind (sl1In a3 0 3) fun r2 => Option.bind (bif !r2 then (some true) else (Option.bind (sIsValidSubscriberID a2) fun r4 => some (!r4))) fun (v3 : Bool) => bif v3 then (some 1) else (bif eqB a3 a2.Network then (some 0) else (Option.bind (sRoamingAllowed a0 a2.Network a3) fun r5 => bif !r5 then (some 2) else (Option.bind (bif ltB r1 0 then (some true) else (Option.bind (ix a1 r1) fun x7 => Option.bind (sIsValidAgreement x7) fun r8 => some (!r8))) fun (v6 : Bool) => bif v6 then (some 3) else (some 0))))
theorem sCheckRoaming_c {a0 : TSubscription} {a1 : List TRoamingAgreement} {a2 : TSubscriberID} {a3 : Int} {r : Int} (H : sCheckRoaming a0 a1 a2 a3 = some r) : Fn Try.prog 48 [.agg (eTSubscription a0), aL (a1.map eTRoamingAgreement), .agg (eTSubscriberID a2), aI a3] [.c (.d (.i .i64 r))] := by
  refine fn_in Try.func48 rfl (by kernel_rfl) Try.ntmps48 rfl rfl rfl ?_
  refine wk ?_
  obtain ⟨r1, hr1, H⟩ := ob H
  refine awr_n rfl (ca rfl rfl rfl (sFindAgreement_c hr1) trivial rfl rfl rfl rfl) ?_
  refine wk ?_
  obtain ⟨r2, hr2, H⟩ := ob H
  refine awr_n rfl (ca rfl rfl rfl (sl1In_c hr2) trivial rfl rfl rfl rfl) ?_
  refine wk ?_
  obtain ⟨v3, Hj, H⟩ := ob H
  refine awr_join ⟨[(1, .v (.c (.d false (.l (a1.map eTRoamingAgreement))))), (3, tI a3), (4, .v (.c (.p 0 0))), (6, .v (.c (.p 1 0))), (9, tI r1), (15, tB v3)], [(0, .var 50 [.d false (.i .i64 a0.RateLimit), .d false (.i .i64 a0.BestClass), .d false (.i .i64 a0.GrantSize), .d false (.l (a0.RoamingNetworks.map eI))]), (1, .var 40 [.d false (.i .i64 a2.Network), .d false (.i .i64 a2.Number)])], 2⟩ ?_ ?_
  · have H := Hj
    refine wk ?_
    refine g2 rfl rfl rfl (fun h => ?_) (fun h => ?_)
    · have H := bt h H
      refine wk ?_
      cases H
      exact weak_of ⟨rfl, rfl, rfl, rfl, rfl, rfl, rfl, rfl, rfl, rfl, rfl, rfl, trivial⟩ ⟨rfl, ⟨rfl, rfl⟩, rfl, ⟨rfl, rfl⟩, trivial⟩
    · have H := bf h H
      refine wk ?_
      obtain ⟨r4, hr4, H⟩ := ob H
      refine awr_ng rfl rfl rfl rfl (ca rfl rfl rfl (sIsValidSubscriberID_c hr4) trivial rfl rfl rfl rfl) ?_
      refine wk ?_
      cases H
      exact weak_of ⟨rfl, rfl, rfl, rfl, rfl, rfl, rfl, rfl, rfl, rfl, rfl, rfl, trivial⟩ ⟨rfl, ⟨rfl, rfl⟩, rfl, ⟨rfl, rfl⟩, trivial⟩
  refine wk ?_
  refine awc_cond rfl (fun h => ?_) (fun h => ?_)
  · have H := bt h H
    refine wk ?_
    cases H
    exact fin_ret (.cons (.tmp rfl) .nil) rfl rfl rfl
  · have H := bf h H
    refine wk ?_
    refine awc_cond rfl (fun h => ?_) (fun h => ?_)
    · have H := bt h H
      refine wk ?_
      cases H
      exact fin_ret (.cons (.tmp rfl) .nil) rfl rfl rfl
    · have H := bf h H
      refine wk ?_
      obtain ⟨r5, hr5, H⟩ := ob H
      refine awr_n rfl (ca rfl rfl rfl (sRoamingAllowed_c hr5) trivial rfl rfl rfl rfl) ?_
      refine wk ?_
      refine awc_cond rfl (fun h => ?_) (fun h => ?_)
      · have H := bt h H
        refine wk ?_
        cases H
        exact fin_ret (.cons (.tmp rfl) .nil) rfl rfl rfl
      · have H := bf h H
        refine wk ?_
        obtain ⟨v6, Hj, H⟩ := ob H
        refine awr_join ⟨[(36, tB v6)], [], 0⟩ ?_ ?_
        · have H := Hj
          refine wk ?_
          refine g2 rfl rfl rfl (fun h => ?_) (fun h => ?_)
          · have H := bt h H
            refine wk ?_
            cases H
            exact weak_of ⟨rfl, rfl, trivial⟩ trivial
          · have H := bf h H
            refine wk ?_
            obtain ⟨x7, hx7, H⟩ := ob H
            refine awr_ng rfl rfl rfl rfl (xdT (enc := eTRoamingAgreement) hx7 (fun _ => rfl) rfl rfl rfl) ?_
            refine wk ?_
            obtain ⟨r8, hr8, H⟩ := ob H
            refine awr_ng rfl rfl rfl rfl (ca rfl rfl rfl (sIsValidAgreement_c hr8) trivial rfl rfl rfl rfl) ?_
            refine wk ?_
            cases H
            exact weak_of ⟨rfl, rfl, trivial⟩ trivial
        refine wk ?_
        refine awc_cond rfl (fun h => ?_) (fun h => ?_)
        · have H := bt h H
          refine wk ?_
          cases H
          exact fin_ret (.cons (.tmp rfl) .nil) rfl rfl rfl
        · have H := bf h H
          refine wk ?_
          cases H
          exact fin_ret (.cons (.tmp rfl) .nil) rfl rfl rfl
def sl21Copy (a0 : List TRegistration) : Option (List TRegistration) :=
  bif apOk 48 (([] : List TRegistration) ++ a0).length then (some (([] : List TRegistration) ++ a0)) else none
theorem sl21Copy_c {a0 : List TRegistration} {r : List TRegistration} (H : sl21Copy a0 = some r) : Fn Try.prog 158 [aL (a0.map eTRegistration)] [.c (.own 44 6 (r.map eTRegistration) r.length)] := by
  refine fn_in Try.func158 rfl (by kernel_rfl) Try.ntmps158 rfl rfl rfl ?_
  refine wk ?_
  obtain ⟨h, H⟩ := rq H
  refine awr_step rfl (apT (enc := eTRegistration) (ys := ([] : List TRegistration)) (zs := a0) h rfl (fun _ => rfl) (by first | rfl | simp) .d rfl rfl rfl rfl rfl rfl rfl rfl) ?_
  refine awr_weak (weak_flat (enc := eTRegistration) (o := 0) rfl (fun _ => rfl)) ?_
  refine wk ?_
  cases H
  exact fin_ret (.cons (.tmp rfl) .nil) rfl rfl (by first | rfl | simp)
def sl37Fail (a0 : List TRegistration) (a1 : Int) : Option TRoamingResult :=
  Option.bind (sl21Copy a0) fun r1 => some (⟨a1, r1, -1, (⟨0, 0⟩ : TTempID)⟩ : TRoamingResult)
theorem sl37Fail_c {a0 : List TRegistration} {a1 : Int} {r : TRoamingResult} (H : sl37Fail a0 a1 = some r) : Fn Try.prog 123 [aL (a0.map eTRegistration), aI a1] [.agg [.d (.i .i64 r.Code), .own 44 6 (r.Registrations.map eTRegistration) r.Registrations.length, .d (.i .i64 r.Cancelled), .d (.i .i64 r.TempID.Pool), .d (.i .i64 r.TempID.Number)]] := by
  refine fn_in Try.func123 rfl (by kernel_rfl) Try.ntmps123 rfl rfl rfl ?_
  refine wk ?_
  obtain ⟨r1, hr1, H⟩ := ob H
  refine awr_n rfl (ca rfl rfl rfl (sl21Copy_c hr1) trivial rfl rfl rfl rfl) ?_
  refine wk ?_
  cases H
  exact fin_ret (.cons (.cell rfl rfl rfl) .nil) rfl rfl (by first | rfl | simp)
def sMod (a0 : Int) (a1 : Int) : Option Int :=
  Option.bind (sl1In a1 1 1000000000000) fun r1 => bif !r1 then (some 0) else (bif !eqB a1 0 then (bif !eqB a1 0 then (some (Int.tmod (WR ((Int.tmod a0 a1) + a1)) a1)) else none) else none)
theorem sMod_c {a0 : Int} {a1 : Int} {r : Int} (H : sMod a0 a1 = some r) : Fn Try.prog 173 [aI a0, aI a1] [.c (.d (.i .i64 r))] := by
  refine fn_in Try.func173 rfl (by kernel_rfl) Try.ntmps173 rfl rfl rfl ?_
  refine wk ?_
  obtain ⟨r1, hr1, H⟩ := ob H
  refine awr_n rfl (ca rfl rfl rfl (sl1In_c hr1) trivial rfl rfl rfl rfl) ?_
  refine wk ?_
  refine awc_cond rfl (fun h => ?_) (fun h => ?_)
  · have H := bt h H
    refine wk ?_
    cases H
    exact fin_ret (.cons (.tmp rfl) .nil) rfl rfl rfl
  · have H := bf h H
    refine wk ?_
    obtain ⟨h, H⟩ := rq H
    refine awr_n rfl (ir rfl rfl rfl (ne0 h)) ?_
    refine wk ?_
    obtain ⟨h, H⟩ := rq H
    refine awr_n rfl (ir rfl rfl rfl (ne0 h)) ?_
    refine wk ?_
    cases H
    exact fin_ret (.cons (.tmp rfl) .nil) rfl rfl rfl
def sHash_L1 (a0 : List Int) : (Int × Int) → Option (Step (Int × Int) (Int))
  | (v1, v2) => bif ltB v2 ((a0.length : Nat) : Int) then (Option.bind (ix a0 v2) fun x6 => Option.bind (sMod x6 2147483647) fun r7 => some (.next (Int.tmod (WR ((WR ((WR (v1 * 1000003)) + r7)) + 13)) 2147483647, WR (v2 + 1)))) else (some (.done v1))
def sHash (a0 : List Int) : Option Int :=
  Option.bind (iter (sHash_L1 a0) FU (11, 0)) fun (v5 : Int) => some v5
theorem sHash_c {a0 : List Int} {r : Int} (H : sHash a0 = some r) : Fn Try.prog 180 [aL (a0.map eI)] [.c (.d (.i .i64 r))] := by
  refine fn_in Try.func180 rfl (by kernel_rfl) Try.ntmps180 rfl rfl rfl ?_
  refine wk ?_
  obtain ⟨v5, Hj, H⟩ := ob H
  refine awc_jblk ⟨[(3, tI v5)], [], 0⟩ ?_ ?_
  · refine wk ?_
    refine awc_iter (fun (q : Int × Int) => ⟨[(0, .v (.c (.d false (.l (a0.map eI))))), (3, tI q.1), (4, tI q.2)], [], 0⟩) Hj (weak_of ⟨rfl, rfl, rfl, rfl, rfl, rfl, trivial⟩ trivial) ?_
    rintro ⟨v1, v2⟩ o H
    try dsimp only
    refine wk ?_
    refine awc_cond rfl (fun h => ?_) (fun h => ?_)
    · have H := bt h H
      refine wk ?_
      obtain ⟨x6, hx6, H⟩ := ob H
      refine awr_n rfl (xdT (enc := eI) hx6 (fun _ => rfl) rfl rfl rfl) ?_
      refine wk ?_
      obtain ⟨r7, hr7, H⟩ := ob H
      refine awr_n rfl (ca rfl rfl rfl (sMod_c hr7) trivial rfl rfl rfl rfl) ?_
      refine wk ?_
      refine awr_n rfl (ir rfl rfl rfl (by decide)) ?_
      refine wk ?_
      cases H
      refine iq_n ?_
      exact weak_of ⟨rfl, rfl, rfl, rfl, rfl, rfl, trivial⟩ trivial
    · have H := bf h H
      refine wk ?_
      cases H
      refine iq_e (fun hq => ?_)
      cases hq
      refine wk ?_
      exact weak_of ⟨rfl, rfl, trivial⟩ trivial
  refine wk ?_
  cases H
  exact fin_ret (.cons (.tmp rfl) .nil) rfl rfl rfl
def sKeyedHash (a0 : Int) (a1 : List Int) : Option Int :=
  bif apOk 8 ([a0] ++ a1).length then (bif apOk 8 (([a0] ++ a1) ++ [a0]).length then (Option.bind (sHash (([a0] ++ a1) ++ [a0])) fun r1 => some r1) else none) else none
theorem sKeyedHash_c {a0 : Int} {a1 : List Int} {r : Int} (H : sKeyedHash a0 a1 = some r) : Fn Try.prog 174 [aI a0, aL (a1.map eI)] [.c (.d (.i .i64 r))] := by
  refine fn_in Try.func174 rfl (by kernel_rfl) Try.ntmps174 rfl rfl rfl ?_
  refine wk ?_
  obtain ⟨h, H⟩ := rq H
  refine awr_step rfl (apT (enc := eI) (ys := [a0]) (zs := a1) h rfl (fun _ => rfl) (by first | rfl | simp) .d rfl rfl rfl rfl rfl rfl rfl rfl) ?_
  refine awr_weak (weak_flat (enc := eI) (o := 0) rfl (fun _ => rfl)) ?_
  refine wk ?_
  obtain ⟨h, H⟩ := rq H
  refine awr_step rfl (apT (enc := eI) (ys := ([a0] ++ a1)) (zs := [a0]) h rfl (fun _ => rfl) (by first | rfl | simp) (.w rfl (by first | rfl | exact lm _ | simp)) rfl rfl rfl rfl rfl rfl rfl rfl) ?_
  refine wk ?_
  obtain ⟨r1, hr1, H⟩ := ob H
  refine awr_n rfl (ca rfl rfl rfl (sHash_c hr1) ⟨by first | rfl | exact lm _, trivial⟩ rfl rfl rfl rfl) ?_
  refine wk ?_
  cases H
  exact fin_ret (.cons (.tmp rfl) .nil) rfl rfl rfl
def sTempIDCandidate (a0 : Int) (a1 : Int) (a2 : TSubscriberID) (a3 : Int) : Option TTempID :=
  Option.bind (sKeyedHash a0 [a2.Network, a2.Number, a3]) fun r1 => Option.bind (sMod r1 10000) fun r2 => some (⟨a1, r2⟩ : TTempID)
theorem sTempIDCandidate_c {a0 : Int} {a1 : Int} {a2 : TSubscriberID} {a3 : Int} {r : TTempID} (H : sTempIDCandidate a0 a1 a2 a3 = some r) : Fn Try.prog 159 [aI a0, aI a1, .agg (eTSubscriberID a2), aI a3] [.agg [.d (.i .i64 r.Pool), .d (.i .i64 r.Number)]] := by
  refine fn_in Try.func159 rfl (by kernel_rfl) Try.ntmps159 rfl rfl rfl ?_
  refine wk ?_
  obtain ⟨r1, hr1, H⟩ := ob H
  refine awr_n rfl (ca rfl rfl rfl (sKeyedHash_c hr1) ⟨by first | rfl | exact lm _, trivial⟩ rfl rfl rfl rfl) ?_
  refine wk ?_
  obtain ⟨r2, hr2, H⟩ := ob H
  refine awr_n rfl (ca rfl rfl rfl (sMod_c hr2) trivial rfl rfl rfl rfl) ?_
  refine wk ?_
  cases H
  exact fin_ret (.cons (.cell rfl rfl rfl) .nil) rfl rfl rfl
def sl4Has_L1 (a0 : List TTempID) (a1 : TTempID) : Int → Option (Step (Int) (Bool))
  | v1 => bif ltB v1 ((a0.length : Nat) : Int) then (Option.bind (ix a0 v1) fun x2 => bif (eqB x2.Pool a1.Pool && (eqB x2.Number a1.Number && true)) then (dn (some true)) else (some (.next (WR (v1 + 1))))) else (dn (some false))
def sl4Has (a0 : List TTempID) (a1 : TTempID) : Option Bool :=
  iter (sl4Has_L1 a0 a1) FU 0
theorem sl4Has_c {a0 : List TTempID} {a1 : TTempID} {r : Bool} (H : sl4Has a0 a1 = some r) : Fn Try.prog 160 [aL (a0.map eTTempID), .agg (eTTempID a1)] [.c (.d (.b r))] := by
  refine fn_in Try.func160 rfl (by kernel_rfl) Try.ntmps160 rfl rfl rfl ?_
  refine wkd ?_
  refine awc_iter (fun (q : Int) => ⟨[(0, .v (.c (.d false (.l (a0.map eTTempID))))), (3, .v (.c (.p 0 0))), (5, tI q)], [(0, .var 42 [.d false (.i .i64 a1.Pool), .d false (.i .i64 a1.Number)])], 1⟩) H (weak_of ⟨rfl, rfl, rfl, rfl, rfl, rfl, trivial⟩ ⟨rfl, ⟨rfl, rfl⟩, trivial⟩) ?_
  rintro v1 o H
  try dsimp only
  refine wkd ?_
  refine awc_cond rfl (fun h => ?_) (fun h => ?_)
  · have H := bt h H
    refine wkd ?_
    obtain ⟨x2, hx2, H⟩ := ob H
    refine dr_n rfl (xdT (enc := eTTempID) hx2 (fun _ => rfl) rfl rfl rfl) ?_
    refine wkd ?_
    refine awc_cond rfl (fun h => ?_) (fun h => ?_)
    · have H := bt h H
      refine wkd ?_
      obtain ⟨r0, Hd, rfl⟩ := dnE H
      refine iq_r (fun hq => ?_)
      have H := Hd.trans (congrArg some hq)
      refine wkd ?_
      cases H
      exact fin_ret (.cons (.tmp rfl) .nil) rfl rfl rfl
    · have H := bf h H
      refine wkd ?_
      cases H
      refine iq_n ?_
      exact weak_of ⟨rfl, rfl, rfl, rfl, rfl, rfl, trivial⟩ ⟨rfl, ⟨rfl, rfl⟩, trivial⟩
  · have H := bf h H
    refine wkd ?_
    obtain ⟨r0, Hd, rfl⟩ := dnE H
    refine iq_e (fun hq => ?_)
    have H := Hd.trans (congrArg some hq)
    refine wkd ?_
    cases H
    exact fin_ret (.cons (.tmp rfl) .nil) rfl rfl rfl
def sAllocateTempID_L1 (a0 : Int) (a1 : Int) (a2 : TSubscriberID) (a3 : List TTempID) : Int → Option (Step (Int) (TTempID × Bool))
  | v1 => bif ltB v1 50 then (Option.bind (sTempIDCandidate a0 a1 a2 v1) fun r2 => Option.bind (sl4Has a3 r2) fun r3 => bif !r3 then (dn (some (r2, true))) else (some (.next (WR (v1 + 1))))) else (dn (some ((⟨0, 0⟩ : TTempID), false)))
def sAllocateTempID (a0 : Int) (a1 : Int) (a2 : TSubscriberID) (a3 : List TTempID) : Option (TTempID × Bool) :=
  iter (sAllocateTempID_L1 a0 a1 a2 a3) FU 0
theorem sAllocateTempID_c {a0 : Int} {a1 : Int} {a2 : TSubscriberID} {a3 : List TTempID} {r : TTempID × Bool} (H : sAllocateTempID a0 a1 a2 a3 = some r) : Fn Try.prog 124 [aI a0, aI a1, .agg (eTSubscriberID a2), aL (a3.map eTTempID)] [.agg [.d (.i .i64 r.1.Pool), .d (.i .i64 r.1.Number)], .c (.d (.b r.2))] := by
  refine fn_in Try.func124 rfl (by kernel_rfl) Try.ntmps124 rfl rfl rfl ?_
  refine wk ?_
  refine awc_iter (fun (q : Int) => ⟨[(0, tI a0), (1, tI a1), (3, .v (.c (.d false (.l (a3.map eTTempID))))), (6, .v (.c (.p 0 0))), (8, .v (.c (.p 1 0))), (10, tI q)], [(0, .var 40 [.d false (.i .i64 a2.Network), .d false (.i .i64 a2.Number)]), (1, .var 42 [.d false (.i .i64 0), .d false (.i .i64 0)])], 2⟩) H (weak_of ⟨rfl, rfl, rfl, rfl, rfl, rfl, rfl, rfl, rfl, rfl, rfl, rfl, trivial⟩ ⟨rfl, ⟨rfl, rfl⟩, rfl, ⟨rfl, rfl⟩, trivial⟩) ?_
  rintro v1 o H
  try dsimp only
  refine wk ?_
  refine awc_cond rfl (fun h => ?_) (fun h => ?_)
  · have H := bt h H
    refine wk ?_
    obtain ⟨r2, hr2, H⟩ := ob H
    refine awr_n rfl (ca rfl rfl rfl (sTempIDCandidate_c hr2) trivial rfl rfl rfl rfl) ?_
    refine wk ?_
    obtain ⟨r3, hr3, H⟩ := ob H
    refine awr_n rfl (ca rfl rfl rfl (sl4Has_c hr3) trivial rfl rfl rfl rfl) ?_
    refine wk ?_
    refine awc_cond rfl (fun h => ?_) (fun h => ?_)
    · have H := bt h H
      refine wk ?_
      obtain ⟨r0, Hd, rfl⟩ := dnE H
      refine iq_r (fun hq => ?_)
      have H := Hd.trans (congrArg some hq)
      refine wk ?_
      cases H
      exact fin_ret (.cons (.cell rfl rfl rfl) (.cons (.tmp rfl) .nil)) rfl rfl rfl
    · have H := bf h H
      refine wk ?_
      cases H
      refine iq_n ?_
      exact weak_of ⟨rfl, rfl, rfl, rfl, rfl, rfl, rfl, rfl, rfl, rfl, rfl, rfl, trivial⟩ ⟨rfl, ⟨rfl, rfl⟩, rfl, ⟨rfl, rfl⟩, trivial⟩
  · have H := bf h H
    refine wk ?_
    obtain ⟨r0, Hd, rfl⟩ := dnE H
    refine iq_e (fun hq => ?_)
    have H := Hd.trans (congrArg some hq)
    refine wk ?_
    cases H
    exact fin_ret (.cons (.cell rfl rfl rfl) (.cons (.tmp rfl) .nil)) rfl rfl rfl
def sTempIDsIn_L1 (a0 : List TRegistration) (a1 : Int) : (Int × List TTempID) → Option (Step (Int × List TTempID) (List TTempID))
  | (v1, v2) => bif ltB v1 ((a0.length : Nat) : Int) then (Option.bind (ix a0 v1) fun x7 => Option.bind (bif eqB x7.Network a1 then (Option.bind (ix a0 v1) fun x9 => bif apOk 16 (v2 ++ [x9.TempID]).length then (some (v2 ++ [x9.TempID])) else none) else (some v2)) fun (v8 : List TTempID) => some (.next (WR (v1 + 1), v8))) else (some (.done v2))
def sTempIDsIn (a0 : List TRegistration) (a1 : Int) : Option (List TTempID) :=
  Option.bind (iter (sTempIDsIn_L1 a0 a1) FU (0, ([] : List TTempID))) fun (v6 : List TTempID) => some v6
theorem sTempIDsIn_c {a0 : List TRegistration} {a1 : Int} {r : List TTempID} (H : sTempIDsIn a0 a1 = some r) : Fn Try.prog 125 [aL (a0.map eTRegistration), aI a1] [.c (.own 42 2 (r.map eTTempID) r.length)] := by
  refine fn_in Try.func125 rfl (by kernel_rfl) Try.ntmps125 rfl rfl rfl ?_
  refine wk ?_
  obtain ⟨v6, Hj, H⟩ := ob H
  refine awc_jblk ⟨[(5, .v (.c (.w 0 v6.length)))], [(0, .row 42 2 (v6.map eTTempID) true true)], 1⟩ ?_ ?_
  · refine wk ?_
    refine awc_iter (fun (q : Int × List TTempID) => ⟨[(0, .v (.c (.d false (.l (a0.map eTRegistration))))), (1, tI a1), (5, .v (.c (.w 0 q.2.length))), (6, tI q.1)], [(0, .row 42 2 (q.2.map eTTempID) true true)], 1⟩) Hj (weak_of ⟨rfl, rfl, rfl, rfl, wn rfl (by first | rfl | simp), rfl, rfl, rfl, trivial⟩ ⟨rfl, ⟨rfl, rfl⟩, trivial⟩) ?_
    rintro ⟨v1, v2⟩ o H
    try dsimp only
    refine wk ?_
    refine awc_cond rfl (fun h => ?_) (fun h => ?_)
    · have H := bt h H
      refine wk ?_
      obtain ⟨x7, hx7, H⟩ := ob H
      refine awr_n rfl (xdT (enc := eTRegistration) hx7 (fun _ => rfl) rfl rfl rfl) ?_
      refine wk ?_
      obtain ⟨v8, Hj, H⟩ := ob H
      refine awc_join ⟨[(0, .v (.c (.d false (.l (a0.map eTRegistration))))), (1, tI a1), (5, .v (.c (.w 0 v8.length))), (6, tI v1)], [(0, .row 42 2 (v8.map eTTempID) true true)], 1⟩ ?_ ?_
      · have H := Hj
        refine wk ?_
        refine awc_cond rfl (fun h => ?_) (fun h => ?_)
        · have H := bt h H
          refine wk ?_
          obtain ⟨x9, hx9, H⟩ := ob H
          refine awr_n rfl (xdT (enc := eTRegistration) hx9 (fun _ => rfl) rfl rfl rfl) ?_
          refine wk ?_
          obtain ⟨h, H⟩ := rq H
          refine awr_step rfl (apT (enc := eTTempID) (ys := v2) (zs := [x9.TempID]) h rfl (fun _ => rfl) (by first | rfl | simp) (.w rfl (by first | rfl | exact lm _ | simp)) rfl rfl rfl rfl rfl rfl rfl rfl) ?_
          refine wk ?_
          cases H
          exact weak_of ⟨rfl, rfl, rfl, rfl, wn rfl (by first | rfl | simp), rfl, rfl, rfl, trivial⟩ ⟨rfl, ⟨rfl, rfl⟩, trivial⟩
        · have H := bf h H
          refine wk ?_
          cases H
          exact weak_of ⟨rfl, rfl, rfl, rfl, wn rfl (by first | rfl | simp), rfl, rfl, rfl, trivial⟩ ⟨rfl, ⟨rfl, rfl⟩, trivial⟩
      refine wk ?_
      cases H
      refine iq_n ?_
      exact weak_of ⟨rfl, rfl, rfl, rfl, wn rfl (by first | rfl | simp), rfl, rfl, rfl, trivial⟩ ⟨rfl, ⟨rfl, rfl⟩, trivial⟩
    · have H := bf h H
      refine wk ?_
      cases H
      refine iq_e (fun hq => ?_)
      cases hq
      refine wk ?_
      exact weak_of ⟨wn rfl (by first | rfl | simp), rfl, trivial⟩ ⟨rfl, ⟨rfl, rfl⟩, trivial⟩
  refine wk ?_
  cases H
  exact fin_ret (.cons (.tmp rfl) .nil) rfl rfl (by first | rfl | simp)
def sFindRegistration_L1 (a0 : List TRegistration) (a1 : TSubscriberID) : Int → Option (Step (Int) (Int))
  | v1 => bif ltB v1 ((a0.length : Nat) : Int) then (Option.bind (ix a0 v1) fun x2 => bif (eqB x2.ID.Network a1.Network && (eqB x2.ID.Number a1.Number && true)) then (dn (some v1)) else (some (.next (WR (v1 + 1))))) else (dn (some (-1)))
def sFindRegistration (a0 : List TRegistration) (a1 : TSubscriberID) : Option Int :=
  iter (sFindRegistration_L1 a0 a1) FU 0
theorem sFindRegistration_c {a0 : List TRegistration} {a1 : TSubscriberID} {r : Int} (H : sFindRegistration a0 a1 = some r) : Fn Try.prog 24 [aL (a0.map eTRegistration), .agg (eTSubscriberID a1)] [.c (.d (.i .i64 r))] := by
  refine fn_in Try.func24 rfl (by kernel_rfl) Try.ntmps24 rfl rfl rfl ?_
  refine wkd ?_
  refine awc_iter (fun (q : Int) => ⟨[(0, .v (.c (.d false (.l (a0.map eTRegistration))))), (3, .v (.c (.p 0 0))), (5, tI q)], [(0, .var 40 [.d false (.i .i64 a1.Network), .d false (.i .i64 a1.Number)])], 1⟩) H (weak_of ⟨rfl, rfl, rfl, rfl, rfl, rfl, trivial⟩ ⟨rfl, ⟨rfl, rfl⟩, trivial⟩) ?_
  rintro v1 o H
  try dsimp only
  refine wkd ?_
  refine awc_cond rfl (fun h => ?_) (fun h => ?_)
  · have H := bt h H
    refine wkd ?_
    obtain ⟨x2, hx2, H⟩ := ob H
    refine dr_n rfl (xdT (enc := eTRegistration) hx2 (fun _ => rfl) rfl rfl rfl) ?_
    refine wkd ?_
    refine awc_cond rfl (fun h => ?_) (fun h => ?_)
    · have H := bt h H
      refine wkd ?_
      obtain ⟨r0, Hd, rfl⟩ := dnE H
      refine iq_r (fun hq => ?_)
      have H := Hd.trans (congrArg some hq)
      refine wkd ?_
      cases H
      exact fin_ret (.cons (.tmp rfl) .nil) rfl rfl rfl
    · have H := bf h H
      refine wkd ?_
      cases H
      refine iq_n ?_
      exact weak_of ⟨rfl, rfl, rfl, rfl, rfl, rfl, trivial⟩ ⟨rfl, ⟨rfl, rfl⟩, trivial⟩
  · have H := bf h H
    refine wkd ?_
    obtain ⟨r0, Hd, rfl⟩ := dnE H
    refine iq_e (fun hq => ?_)
    have H := Hd.trans (congrArg some hq)
    refine wkd ?_
    cases H
    exact fin_ret (.cons (.tmp rfl) .nil) rfl rfl rfl
def sIsValidTempID (a0 : TTempID) : Option Bool :=
  Option.bind (sl1In a0.Pool 0 3) fun r1 => Option.bind (bif r1 then (Option.bind (sl1In a0.Number 0 9999) fun r3 => some r3) else (some false)) fun (v2 : Bool) => some v2
theorem sIsValidTempID_c {a0 : TTempID} {r : Bool} (H : sIsValidTempID a0 = some r) : Fn Try.prog 175 [.agg (eTTempID a0)] [.c (.d (.b r))] := by
  refine fn_in Try.func175 rfl (by kernel_rfl) Try.ntmps175 rfl rfl rfl ?_
  refine wk ?_
  obtain ⟨r1, hr1, H⟩ := ob H
  refine awr_n rfl (ca rfl rfl rfl (sl1In_c hr1) trivial rfl rfl rfl rfl) ?_
  refine wk ?_
  obtain ⟨v2, Hj, H⟩ := ob H
  refine awr_join ⟨[(2, tB v2)], [], 0⟩ ?_ ?_
  · have H := Hj
    refine wk ?_
    refine g2 rfl rfl rfl (fun h => ?_) (fun h => ?_)
    · have H := bt h H
      refine wk ?_
      obtain ⟨r3, hr3, H⟩ := ob H
      refine awr_ng rfl rfl rfl rfl (ca rfl rfl rfl (sl1In_c hr3) trivial rfl rfl rfl rfl) ?_
      refine wk ?_
      cases H
      exact weak_of ⟨rfl, rfl, trivial⟩ trivial
    · have H := bf h H
      refine wk ?_
      cases H
      exact weak_of ⟨rfl, rfl, trivial⟩ trivial
  refine wk ?_
  cases H
  exact fin_ret (.cons (.tmp rfl) .nil) rfl rfl rfl
def sl21Temp_L1 (a0 : List TRegistration) (a1 : Int) (a2 : TTempID) : Int → Option (Step (Int) (Int))
  | v1 => bif ltB v1 ((a0.length : Nat) : Int) then (Option.bind (ix a0 v1) fun x2 => Option.bind (bif eqB x2.Network a1 then (Option.bind (ix a0 v1) fun x4 => some (eqB x4.TempID.Pool a2.Pool && (eqB x4.TempID.Number a2.Number && true))) else (some false)) fun (v3 : Bool) => bif v3 then (dn (some v1)) else (some (.next (WR (v1 + 1))))) else (dn (some (-1)))
def sl21Temp (a0 : List TRegistration) (a1 : Int) (a2 : TTempID) : Option Int :=
  iter (sl21Temp_L1 a0 a1 a2) FU 0
theorem sl21Temp_c {a0 : List TRegistration} {a1 : Int} {a2 : TTempID} {r : Int} (H : sl21Temp a0 a1 a2 = some r) : Fn Try.prog 176 [aL (a0.map eTRegistration), aI a1, .agg (eTTempID a2)] [.c (.d (.i .i64 r))] := by
  refine fn_in Try.func176 rfl (by kernel_rfl) Try.ntmps176 rfl rfl rfl ?_
  refine wkd ?_
  refine awc_iter (fun (q : Int) => ⟨[(0, .v (.c (.d false (.l (a0.map eTRegistration))))), (1, tI a1), (5, .v (.c (.p 0 0))), (7, tI q)], [(0, .var 42 [.d false (.i .i64 a2.Pool), .d false (.i .i64 a2.Number)])], 1⟩) H (weak_of ⟨rfl, rfl, rfl, rfl, rfl, rfl, rfl, rfl, trivial⟩ ⟨rfl, ⟨rfl, rfl⟩, trivial⟩) ?_
  rintro v1 o H
  try dsimp only
  refine wkd ?_
  refine awc_cond rfl (fun h => ?_) (fun h => ?_)
  · have H := bt h H
    refine wkd ?_
    obtain ⟨x2, hx2, H⟩ := ob H
    refine dr_n rfl (xdT (enc := eTRegistration) hx2 (fun _ => rfl) rfl rfl rfl) ?_
    refine wkd ?_
    obtain ⟨v3, Hj, H⟩ := ob H
    refine dr_join ⟨[(0, .v (.c (.d false (.l (a0.map eTRegistration))))), (1, tI a1), (5, .v (.c (.p 0 0))), (7, tI v1), (29, tB v3)], [(0, .var 42 [.d false (.i .i64 a2.Pool), .d false (.i .i64 a2.Number)])], 1⟩ ?_ ?_
    · have H := Hj
      refine wkd ?_
      refine dg2 rfl rfl rfl (fun h => ?_) (fun h => ?_)
      · have H := bt h H
        refine wkd ?_
        obtain ⟨x4, hx4, H⟩ := ob H
        refine dr_ng rfl rfl rfl rfl (xdT (enc := eTRegistration) hx4 (fun _ => rfl) rfl rfl rfl) ?_
        refine wkd ?_
        cases H
        exact weak_of ⟨rfl, rfl, rfl, rfl, rfl, rfl, rfl, rfl, rfl, rfl, trivial⟩ ⟨rfl, ⟨rfl, rfl⟩, trivial⟩
      · have H := bf h H
        refine wkd ?_
        cases H
        exact weak_of ⟨rfl, rfl, rfl, rfl, rfl, rfl, rfl, rfl, rfl, rfl, trivial⟩ ⟨rfl, ⟨rfl, rfl⟩, trivial⟩
    refine wkd ?_
    refine awc_cond rfl (fun h => ?_) (fun h => ?_)
    · have H := bt h H
      refine wkd ?_
      obtain ⟨r0, Hd, rfl⟩ := dnE H
      refine iq_r (fun hq => ?_)
      have H := Hd.trans (congrArg some hq)
      refine wkd ?_
      cases H
      exact fin_ret (.cons (.tmp rfl) .nil) rfl rfl rfl
    · have H := bf h H
      refine wkd ?_
      cases H
      refine iq_n ?_
      exact weak_of ⟨rfl, rfl, rfl, rfl, rfl, rfl, rfl, rfl, trivial⟩ ⟨rfl, ⟨rfl, rfl⟩, trivial⟩
  · have H := bf h H
    refine wkd ?_
    obtain ⟨r0, Hd, rfl⟩ := dnE H
    refine iq_e (fun hq => ?_)
    have H := Hd.trans (congrArg some hq)
    refine wkd ?_
    cases H
    exact fin_ret (.cons (.tmp rfl) .nil) rfl rfl rfl
def sAreValidRegistrations_L1 (a0 : List TRegistration) : Int → Option (Step (Int) (Bool))
  | v1 => bif ltB v1 ((a0.length : Nat) : Int) then (Option.bind (ix a0 v1) fun x2 => Option.bind (sIsValidSubscriberID x2.ID) fun r3 => Option.bind (bif !r3 then (some true) else (bif slOk a0 0 v1 then (Option.bind (sFindRegistration (a0.take (v1).toNat) x2.ID) fun r5 => bif leB 0 r5 then (some true) else (Option.bind (sl1In x2.Network 0 3) fun r6 => bif !r6 then (some true) else (Option.bind (sl1In x2.Area 0 2) fun r7 => bif !r7 then (some true) else (Option.bind (sIsValidTempID x2.TempID) fun r8 => bif !r8 then (some true) else (bif slOk a0 0 v1 then (Option.bind (sl21Temp (a0.take (v1).toNat) x2.Network x2.TempID) fun r9 => some (leB 0 r9)) else none))))) else none)) fun (v4 : Bool) => bif v4 then (dn (some false)) else (some (.next (WR (v1 + 1))))) else (dn (some (leB ((a0.length : Nat) : Int) 8)))
def sAreValidRegistrations (a0 : List TRegistration) : Option Bool :=
  iter (sAreValidRegistrations_L1 a0) FU 0
theorem sAreValidRegistrations_c {a0 : List TRegistration} {r : Bool} (H : sAreValidRegistrations a0 = some r) : Fn Try.prog 161 [aL (a0.map eTRegistration)] [.c (.d (.b r))] := by
  refine fn_in Try.func161 rfl (by kernel_rfl) Try.ntmps161 rfl rfl rfl ?_
  refine wkd ?_
  refine awc_iter (fun (q : Int) => ⟨[(0, .v (.c (.d false (.l (a0.map eTRegistration))))), (3, tI q)], [], 0⟩) H (weak_of ⟨rfl, rfl, rfl, rfl, trivial⟩ trivial) ?_
  rintro v1 o H
  try dsimp only
  refine wkd ?_
  refine awc_cond rfl (fun h => ?_) (fun h => ?_)
  · have H := bt h H
    refine wkd ?_
    obtain ⟨x2, hx2, H⟩ := ob H
    refine awr_n rfl (xdT (enc := eTRegistration) hx2 (fun _ => rfl) rfl rfl rfl) ?_
    refine wkd ?_
    obtain ⟨r3, hr3, H⟩ := ob H
    refine dr_n rfl (ca rfl rfl rfl (sIsValidSubscriberID_c hr3) trivial rfl rfl rfl rfl) ?_
    refine wkd ?_
    obtain ⟨v4, Hj, H⟩ := ob H
    refine dr_join ⟨[(0, .v (.c (.d false (.l (a0.map eTRegistration))))), (3, tI v1), (56, tB v4)], [], 0⟩ ?_ ?_
    · have H := Hj
      refine wkd ?_
      refine dg2 rfl rfl rfl (fun h => ?_) (fun h => ?_)
      · have H := bt h H
        refine wkd ?_
        cases H
        exact weak_of ⟨rfl, rfl, rfl, rfl, rfl, rfl, trivial⟩ trivial
      · have H := bf h H
        refine wkd ?_
        obtain ⟨h, H⟩ := rq H
        refine dr_ng rfl rfl rfl rfl (cdhT (enc := eTRegistration) h (fun _ => rfl) rfl rfl rfl) ?_
        refine wkd ?_
        obtain ⟨r5, hr5, H⟩ := ob H
        refine dr_ng rfl rfl rfl rfl (ca rfl rfl rfl (sFindRegistration_c hr5) trivial rfl rfl rfl rfl) ?_
        refine wkd ?_
        refine dg2 rfl rfl rfl (fun h => ?_) (fun h => ?_)
        · have H := bt h H
          refine wkd ?_
          cases H
          exact weak_of ⟨rfl, rfl, rfl, rfl, rfl, rfl, trivial⟩ trivial
        · have H := bf h H
          refine wkd ?_
          obtain ⟨r6, hr6, H⟩ := ob H
          refine dr_ng rfl rfl rfl rfl (ca rfl rfl rfl (sl1In_c hr6) trivial rfl rfl rfl rfl) ?_
          refine wkd ?_
          refine dg2 rfl rfl rfl (fun h => ?_) (fun h => ?_)
          · have H := bt h H
            refine wkd ?_
            cases H
            exact weak_of ⟨rfl, rfl, rfl, rfl, rfl, rfl, trivial⟩ trivial
          · have H := bf h H
            refine wkd ?_
            obtain ⟨r7, hr7, H⟩ := ob H
            refine dr_ng rfl rfl rfl rfl (ca rfl rfl rfl (sl1In_c hr7) trivial rfl rfl rfl rfl) ?_
            refine wkd ?_
            refine dg2 rfl rfl rfl (fun h => ?_) (fun h => ?_)
            · have H := bt h H
              refine wkd ?_
              cases H
              exact weak_of ⟨rfl, rfl, rfl, rfl, rfl, rfl, trivial⟩ trivial
            · have H := bf h H
              refine wkd ?_
              obtain ⟨r8, hr8, H⟩ := ob H
              refine dr_ng rfl rfl rfl rfl (ca rfl rfl rfl (sIsValidTempID_c hr8) trivial rfl rfl rfl rfl) ?_
              refine wkd ?_
              refine dg2 rfl rfl rfl (fun h => ?_) (fun h => ?_)
              · have H := bt h H
                refine wkd ?_
                cases H
                exact weak_of ⟨rfl, rfl, rfl, rfl, rfl, rfl, trivial⟩ trivial
              · have H := bf h H
                refine wkd ?_
                obtain ⟨h, H⟩ := rq H
                refine dr_ng rfl rfl rfl rfl (cdhT (enc := eTRegistration) h (fun _ => rfl) rfl rfl rfl) ?_
                refine wkd ?_
                obtain ⟨r9, hr9, H⟩ := ob H
                refine dr_ng rfl rfl rfl rfl (ca rfl rfl rfl (sl21Temp_c hr9) trivial rfl rfl rfl rfl) ?_
                refine wkd ?_
                cases H
                exact weak_of ⟨rfl, rfl, rfl, rfl, rfl, rfl, trivial⟩ trivial
    refine wkd ?_
    refine awc_cond rfl (fun h => ?_) (fun h => ?_)
    · have H := bt h H
      refine wkd ?_
      obtain ⟨r0, Hd, rfl⟩ := dnE H
      refine iq_r (fun hq => ?_)
      have H := Hd.trans (congrArg some hq)
      refine wkd ?_
      cases H
      exact fin_ret (.cons (.tmp rfl) .nil) rfl rfl rfl
    · have H := bf h H
      refine wkd ?_
      cases H
      refine iq_n ?_
      exact weak_of ⟨rfl, rfl, rfl, rfl, trivial⟩ trivial
  · have H := bf h H
    refine wkd ?_
    obtain ⟨r0, Hd, rfl⟩ := dnE H
    refine iq_e (fun hq => ?_)
    have H := Hd.trans (congrArg some hq)
    refine wkd ?_
    cases H
    exact fin_ret (.cons (.tmp rfl) .nil) rfl rfl rfl
def sRegister (a0 : List TRegistration) (a1 : TRegistration) : Option (List TRegistration × Int × Bool) :=
  Option.bind (sl21Copy a0) fun r1 => Option.bind (sFindRegistration a0 a1.ID) fun r2 => Option.bind (bif leB 0 r2 then (Option.bind (ix a0 r2) fun x5 => Option.bind (ix r1 r2) fun x6 => some (x5.Network, (r1.set (r2).toNat a1))) else (bif apOk 48 (r1 ++ [a1]).length then (some (-1, (r1 ++ [a1]))) else none)) fun ((v3, v4) : Int × List TRegistration) => Option.bind (sAreValidRegistrations v4) fun r7 => bif !r7 then (Option.bind (sl21Copy a0) fun r8 => some (r8, -1, false)) else (some (v4, v3, true))
theorem sRegister_c {a0 : List TRegistration} {a1 : TRegistration} {r : List TRegistration × Int × Bool} (H : sRegister a0 a1 = some r) : Fn Try.prog 126 [aL (a0.map eTRegistration), .agg (eTRegistration a1)] [.c (.own 44 6 (r.1.map eTRegistration) r.1.length), .c (.d (.i .i64 r.2.1)), .c (.d (.b r.2.2))] := by
  refine fn_in Try.func126 rfl (by kernel_rfl) Try.ntmps126 rfl rfl rfl ?_
  refine wk ?_
  obtain ⟨r1, hr1, H⟩ := ob H
  refine awr_n rfl (ca rfl rfl rfl (sl21Copy_c hr1) trivial rfl rfl rfl rfl) ?_
  refine wk ?_
  obtain ⟨r2, hr2, H⟩ := ob H
  refine awr_n rfl (ca rfl rfl rfl (sFindRegistration_c hr2) trivial rfl rfl rfl rfl) ?_
  refine wk ?_
  obtain ⟨⟨v3, v4⟩, Hj, H⟩ := ob H
  refine awc_join ⟨[(0, .v (.c (.d false (.l (a0.map eTRegistration))))), (7, .v (.c (.w 1 v4.length))), (9, tI v3)], [(1, .row 44 6 (v4.map eTRegistration) true true)], 2⟩ ?_ ?_
  · have H := Hj
    refine wk ?_
    refine awc_cond rfl (fun h => ?_) (fun h => ?_)
    · have H := bt h H
      refine wk ?_
      obtain ⟨x5, hx5, H⟩ := ob H
      refine awr_n rfl (xdT (enc := eTRegistration) hx5 (fun _ => rfl) rfl rfl rfl) ?_
      refine wk ?_
      obtain ⟨x6, hx6, H⟩ := ob H
      refine awr_n rfl (xwT hx6 (by first | rfl | simp) rfl rfl rfl) ?_
      refine wk ?_
      refine awr_step rfl (soT (enc := eTRegistration) (a' := a1) hx6 rfl rfl rfl rfl rfl rfl rfl) ?_
      refine wk ?_
      cases H
      exact weak_of ⟨rfl, rfl, wn rfl (by first | rfl | simp), rfl, rfl, rfl, trivial⟩ ⟨rfl, ⟨rfl, rfl⟩, trivial⟩
    · have H := bf h H
      refine wk ?_
      obtain ⟨h, H⟩ := rq H
      refine awr_step rfl (apT (enc := eTRegistration) (ys := r1) (zs := [a1]) h rfl (fun _ => rfl) (by first | rfl | simp) (.w rfl (by first | rfl | exact lm _ | simp)) rfl rfl rfl rfl rfl rfl rfl rfl) ?_
      refine wk ?_
      cases H
      exact weak_of ⟨rfl, rfl, wn rfl (by first | rfl | simp), rfl, rfl, rfl, trivial⟩ ⟨rfl, ⟨rfl, rfl⟩, trivial⟩
  refine wk ?_
  obtain ⟨r7, hr7, H⟩ := ob H
  refine awr_n rfl (ca rfl rfl rfl (sAreValidRegistrations_c hr7) ⟨by first | rfl | exact lm _, trivial⟩ rfl rfl rfl rfl) ?_
  refine wk ?_
  refine awc_cond rfl (fun h => ?_) (fun h => ?_)
  · have H := bt h H
    refine wk ?_
    obtain ⟨r8, hr8, H⟩ := ob H
    refine awr_n rfl (ca rfl rfl rfl (sl21Copy_c hr8) trivial rfl rfl rfl rfl) ?_
    refine wk ?_
    cases H
    exact fin_ret (.cons (.tmp rfl) (.cons (.tmp rfl) (.cons (.tmp rfl) .nil))) rfl rfl (by first | rfl | simp)
  · have H := bf h H
    refine wk ?_
    cases H
    exact fin_ret (.cons (.tmp rfl) (.cons (.tmp rfl) (.cons (.tmp rfl) .nil))) rfl rfl (by first | rfl | simp)
def sRegisterRoaming (a0 : List TRegistration) (a1 : TSubscription) (a2 : List TRoamingAgreement) (a3 : TSubscriberID) (a4 : Int) (a5 : Int) (a6 : Int) : Option TRoamingResult :=
  Option.bind (sCheckRoaming a1 a2 a3 a4) fun r1 => bif !eqB r1 0 then (Option.bind (sl37Fail a0 r1) fun r2 => some r2) else (Option.bind (sTempIDsIn a0 a4) fun r3 => Option.bind (sAllocateTempID a6 a4 a3 r3) fun r4 => bif !r4.2 then (Option.bind (sl37Fail a0 4) fun r5 => some r5) else (Option.bind (sRegister a0 (⟨a3, a4, a5, r4.1⟩ : TRegistration)) fun r6 => bif !r6.2.2 then (Option.bind (sl37Fail a0 5) fun r7 => some r7) else (Option.bind (bif eqB r6.2.1 a4 then (some (-1)) else (some r6.2.1)) fun (v8 : Int) => some (⟨0, r6.1, v8, r4.1⟩ : TRoamingResult))))
theorem sRegisterRoaming_c {a0 : List TRegistration} {a1 : TSubscription} {a2 : List TRoamingAgreement} {a3 : TSubscriberID} {a4 : Int} {a5 : Int} {a6 : Int} {r : TRoamingResult} (H : sRegisterRoaming a0 a1 a2 a3 a4 a5 a6 = some r) : Fn Try.prog 68 [aL (a0.map eTRegistration), .agg (eTSubscription a1), aL (a2.map eTRoamingAgreement), .agg (eTSubscriberID a3), aI a4, aI a5, aI a6] [.agg [.d (.i .i64 r.Code), .own 44 6 (r.Registrations.map eTRegistration) r.Registrations.length, .d (.i .i64 r.Cancelled), .d (.i .i64 r.TempID.Pool), .d (.i .i64 r.TempID.Number)]] := by
  refine fn_in Try.func68 rfl (by kernel_rfl) Try.ntmps68 rfl rfl rfl ?_
  refine wkz ?_
  obtain ⟨r1, hr1, H⟩ := ob H
  refine awr_n rfl (ca rfl rfl rfl (sCheckRoaming_c hr1) trivial rfl rfl rfl rfl) ?_
  refine wkz ?_
  refine awc_cond rfl (fun h => ?_) (fun h => ?_)
  · have H := bt h H
    refine wkz ?_
    obtain ⟨r2, hr2, H⟩ := ob H
    refine awr_n rfl (ca rfl rfl rfl (sl37Fail_c hr2) trivial rfl rfl rfl rfl) ?_
    refine wkz ?_
    cases H
    exact fin_ret (.cons (.cell rfl rfl rfl) .nil) rfl rfl (by first | rfl | simp)
  · have H := bf h H
    refine wkz ?_
    refine awc_dz [0, 1, 2, 3, 4, 5, 6, 7, 8, 9, 10, 11, 12] Try.follows (by kernel_rfl) (by kernel_rfl) rfl ?_
    refine wkz ?_
    obtain ⟨r3, hr3, H⟩ := ob H
    refine dz_n rfl (ca rfl rfl rfl (sTempIDsIn_c hr3) trivial rfl rfl rfl rfl) ?_
    refine wkz ?_
    obtain ⟨r4, hr4, H⟩ := ob H
    refine dz_n rfl (ca rfl rfl rfl (sAllocateTempID_c hr4) ⟨by first | rfl | exact lm _, trivial⟩ rfl rfl rfl rfl) ?_
    refine wkz ?_
    refine dz_w rfl (spx 100004 rfl rfl rfl rfl rfl rfl rfl rfl) ?_
    refine wkz ?_
    refine awc_cond rfl (fun h => ?_) (fun h => ?_)
    · have H := bt h H
      refine wkz ?_
      obtain ⟨r5, hr5, H⟩ := ob H
      refine awr_n rfl (ca rfl rfl rfl (sl37Fail_c hr5) trivial rfl rfl rfl rfl) ?_
      refine wkz ?_
      cases H
      exact fin_ret (.cons (.cell rfl rfl rfl) .nil) rfl rfl (by first | rfl | simp)
    · have H := bf h H
      refine wkz ?_
      obtain ⟨r6, hr6, H⟩ := ob H
      refine awr_n rfl (ca rfl rfl rfl (sRegister_c hr6) trivial rfl rfl rfl rfl) ?_
      refine wkz ?_
      refine awc_cond rfl (fun h => ?_) (fun h => ?_)
      · have H := bt h H
        refine wkz ?_
        obtain ⟨r7, hr7, H⟩ := ob H
        refine awr_n rfl (ca rfl rfl rfl (sl37Fail_c hr7) trivial rfl rfl rfl rfl) ?_
        refine wkz ?_
        cases H
        exact fin_ret (.cons (.cell rfl rfl rfl) .nil) rfl rfl (by first | rfl | simp)
      · have H := bf h H
        refine wkz ?_
        obtain ⟨v8, Hj, H⟩ := ob H
        refine awc_join ⟨[(14, .v (.c (.p 2 0))), (16, .v (.c (.p 4 0))), (18, .v (.c (.w 5 r6.1.length))), (19, tI v8)], [(2, .var 77 [.d false (.i .i64 0), .nil, .d false (.i .i64 0), .d false (.i .i64 0), .d false (.i .i64 0)]), (4, .var 42 [.d false (.i .i64 r4.1.Pool), .d false (.i .i64 r4.1.Number)]), (5, .row 44 6 (r6.1.map eTRegistration) true true)], 6⟩ ?_ ?_
        · have H := Hj
          refine wkz ?_
          refine awc_cond rfl (fun h => ?_) (fun h => ?_)
          · have H := bt h H
            refine wkz ?_
            cases H
            exact weak_of ⟨rfl, rfl, rfl, rfl, wn rfl (by first | rfl | simp), rfl, rfl, rfl, trivial⟩ ⟨rfl, ⟨rfl, rfl⟩, rfl, ⟨rfl, rfl⟩, rfl, ⟨rfl, rfl⟩, trivial⟩
          · have H := bf h H
            refine wkz ?_
            cases H
            exact weak_of ⟨rfl, rfl, rfl, rfl, wn rfl (by first | rfl | simp), rfl, rfl, rfl, trivial⟩ ⟨rfl, ⟨rfl, rfl⟩, rfl, ⟨rfl, rfl⟩, rfl, ⟨rfl, rfl⟩, trivial⟩
        refine wkz ?_
        cases H
        exact fin_ret (.cons (.cell rfl rfl rfl) .nil) rfl rfl (by first | rfl | simp)
end Go.AM
