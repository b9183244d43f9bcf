/-
  Own text: a part of the abstract machine for this seat (Gcs). No statement is proved here.
-/
import Derived.Test.YtlmhnjhknfcpgaaGci
set_option linter.unusedVariables false
namespace Go.AM
open Go.Proofs
attribute [local irreducible] AWN NS AWO AWR AWC DR Weak iterQ
set_option maxRecDepth 100000
set_option maxHeartbeats 4000000
def sIsPrefixPath_L1 (a0 : TKeyPath) (a1 : TKeyPath) : Int → Option (Step (Int) (Bool))
  | v1 => bif ltB v1 ((a0.Steps.length : Nat) : Int) then (Option.bind (ix a0.Steps v1) fun x2 => Option.bind (ix a1.Steps v1) fun x3 => bif !eqB x2 x3 then (dn (some false)) else (some (.next (WR (v1 + 1))))) else (dn (some true))
def sIsPrefixPath (a0 : TKeyPath) (a1 : TKeyPath) : Option Bool :=
  bif ltB ((a1.Steps.length : Nat) : Int) ((a0.Steps.length : Nat) : Int) then (some false) else (iter (sIsPrefixPath_L1 a0 a1) FU 0)
theorem sIsPrefixPath_c {a0 : TKeyPath} {a1 : TKeyPath} {r : Bool} (H : sIsPrefixPath a0 a1 = some r) : Fn Try.prog 138 [.agg (eTKeyPath a0), .agg (eTKeyPath a1)] [.c (.d (.b r))] := by
  refine fn_in Try.func138 rfl (by kernel_rfl) Try.ntmps138 rfl rfl rfl ?_
  refine wkd ?_
  refine awc_cond rfl (fun h => ?_) (fun h => ?_)
  · have H := bt h H
    refine wkd ?_
    cases H
    exact fin_ret (.cons (.tmp rfl) .nil) rfl rfl rfl
  · have H := bf h H
    refine wkd ?_
    refine awc_iter (fun (q : Int) => ⟨[(2, .v (.c (.p 0 0))), (3, .v (.c (.p 1 0))), (5, tI q)], [(0, .var 140 [.d false (.l (a0.Steps.map eI))]), (1, .var 140 [.d false (.l (a1.Steps.map eI))])], 2⟩) H (weak_of ⟨rfl, rfl, rfl, rfl, rfl, rfl, trivial⟩ ⟨rfl, ⟨rfl, rfl⟩, rfl, ⟨rfl, rfl⟩, trivial⟩) ?_
    rintro v1 o H
    try dsimp only
    refine wkd ?_
    refine awc_cond rfl (fun h => ?_) (fun h => ?_)
    · have H := bt h H
      refine wkd ?_
      obtain ⟨x2, hx2, H⟩ := ob H
      refine dr_n rfl (xdT (enc := eI) hx2 (fun _ => rfl) rfl rfl rfl) ?_
      refine wkd ?_
      obtain ⟨x3, hx3, H⟩ := ob H
      refine dr_n rfl (xdT (enc := eI) hx3 (fun _ => rfl) rfl rfl rfl) ?_
      refine wkd ?_
      refine awc_cond rfl (fun h => ?_) (fun h => ?_)
      · have H := bt h H
        refine wkd ?_
        obtain ⟨r0, Hd, rfl⟩ := dnE H
        refine iq_r (fun hq => ?_)
        have H := Hd.trans (congrArg some hq)
        refine wkd ?_
        cases H
        exact fin_ret (.cons (.tmp rfl) .nil) rfl rfl rfl
      · have H := bf h H
        refine wkd ?_
        cases H
        refine iq_n ?_
        exact weak_of ⟨rfl, rfl, rfl, rfl, rfl, rfl, trivial⟩ ⟨rfl, ⟨rfl, rfl⟩, rfl, ⟨rfl, rfl⟩, trivial⟩
    · have H := bf h H
      refine wkd ?_
      obtain ⟨r0, Hd, rfl⟩ := dnE H
      refine iq_e (fun hq => ?_)
      have H := Hd.trans (congrArg some hq)
      refine wkd ?_
      cases H
      exact fin_ret (.cons (.tmp rfl) .nil) rfl rfl rfl
def sExposes_L1 (a0 : List TLeakedKey) (a1 : Int) (a2 : TKeyPath) : Int → Option (Step (Int) (Bool))
  | v1 => bif ltB v1 ((a0.length : Nat) : Int) then (Option.bind (ix a0 v1) fun x2 => Option.bind (bif eqB x2.Generation a1 then (Option.bind (ix a0 v1) fun x4 => Option.bind (sIsPrefixPath x4.Path a2) fun r5 => some r5) else (some false)) fun (v3 : Bool) => bif v3 then (dn (some true)) else (some (.next (WR (v1 + 1))))) else (dn (some false))
def sExposes (a0 : List TLeakedKey) (a1 : Int) (a2 : TKeyPath) : Option Bool :=
  iter (sExposes_L1 a0 a1 a2) FU 0
theorem sExposes_c {a0 : List TLeakedKey} {a1 : Int} {a2 : TKeyPath} {r : Bool} (H : sExposes a0 a1 a2 = some r) : Fn Try.prog 93 [aL (a0.map eTLeakedKey), aI a1, .agg (eTKeyPath a2)] [.c (.d (.b r))] := by
  refine fn_in Try.func93 rfl (by kernel_rfl) Try.ntmps93 rfl rfl rfl ?_
  refine wkd ?_
  refine awc_iter (fun (q : Int) => ⟨[(0, .v (.c (.d false (.l (a0.map eTLeakedKey))))), (1, tI a1), (5, .v (.c (.p 0 0))), (7, tI q)], [(0, .var 140 [.d false (.l (a2.Steps.map eI))])], 1⟩) H (weak_of ⟨rfl, rfl, rfl, rfl, rfl, rfl, rfl, rfl, trivial⟩ ⟨rfl, ⟨rfl, rfl⟩, trivial⟩) ?_
  rintro v1 o H
  try dsimp only
  refine wkd ?_
  refine awc_cond rfl (fun h => ?_) (fun h => ?_)
  · have H := bt h H
    refine wkd ?_
    obtain ⟨x2, hx2, H⟩ := ob H
    refine dr_n rfl (xdT (enc := eTLeakedKey) hx2 (fun _ => rfl) rfl rfl rfl) ?_
    refine wkd ?_
    obtain ⟨v3, Hj, H⟩ := ob H
    refine dr_join ⟨[(0, .v (.c (.d false (.l (a0.map eTLeakedKey))))), (1, tI a1), (5, .v (.c (.p 0 0))), (7, tI v1), (29, tB v3)], [(0, .var 140 [.d false (.l (a2.Steps.map eI))])], 1⟩ ?_ ?_
    · have H := Hj
      refine wkd ?_
      refine dg2 rfl rfl rfl (fun h => ?_) (fun h => ?_)
      · have H := bt h H
        refine wkd ?_
        obtain ⟨x4, hx4, H⟩ := ob H
        refine dr_ng rfl rfl rfl rfl (xdT (enc := eTLeakedKey) hx4 (fun _ => rfl) rfl rfl rfl) ?_
        refine wkd ?_
        obtain ⟨r5, hr5, H⟩ := ob H
        refine dr_ng rfl rfl rfl rfl (ca rfl rfl rfl (sIsPrefixPath_c hr5) trivial rfl rfl rfl rfl) ?_
        refine wkd ?_
        cases H
        exact weak_of ⟨rfl, rfl, rfl, rfl, rfl, rfl, rfl, rfl, rfl, rfl, trivial⟩ ⟨rfl, ⟨rfl, rfl⟩, trivial⟩
      · have H := bf h H
        refine wkd ?_
        cases H
        exact weak_of ⟨rfl, rfl, rfl, rfl, rfl, rfl, rfl, rfl, rfl, rfl, trivial⟩ ⟨rfl, ⟨rfl, rfl⟩, trivial⟩
    refine wkd ?_
    refine awc_cond rfl (fun h => ?_) (fun h => ?_)
    · have H := bt h H
      refine wkd ?_
      obtain ⟨r0, Hd, rfl⟩ := dnE H
      refine iq_r (fun hq => ?_)
      have H := Hd.trans (congrArg some hq)
      refine wkd ?_
      cases H
      exact fin_ret (.cons (.tmp rfl) .nil) rfl rfl rfl
    · have H := bf h H
      refine wkd ?_
      cases H
      refine iq_n ?_
      exact weak_of ⟨rfl, rfl, rfl, rfl, rfl, rfl, rfl, rfl, trivial⟩ ⟨rfl, ⟨rfl, rfl⟩, trivial⟩
  · have H := bf h H
    refine wkd ?_
    obtain ⟨r0, Hd, rfl⟩ := dnE H
    refine iq_e (fun hq => ?_)
    have H := Hd.trans (congrArg some hq)
    refine wkd ?_
    cases H
    exact fin_ret (.cons (.tmp rfl) .nil) rfl rfl rfl
def sSignalingKeyPath  : Option TKeyPath :=
  some (⟨[1, 2]⟩ : TKeyPath)
theorem sSignalingKeyPath_c  {r : TKeyPath} (H : sSignalingKeyPath = some r) : Fn Try.prog 94 [] [.agg [.own 3 1 (r.Steps.map eI) r.Steps.length]] := by
  refine fn_in Try.func94 rfl (by kernel_rfl) Try.ntmps94 rfl rfl rfl ?_
  refine wk ?_
  cases H
  exact fin_ret (.cons (.cell rfl rfl rfl) .nil) rfl rfl (by first | rfl | simp)
def sCanForgeSignals (a0 : List TLeakedKey) (a1 : Int) : Option Bool :=
  Option.bind (sSignalingKeyPath) fun r1 => Option.bind (sExposes a0 a1 r1) fun r2 => some r2
theorem sCanForgeSignals_c {a0 : List TLeakedKey} {a1 : Int} {r : Bool} (H : sCanForgeSignals a0 a1 = some r) : Fn Try.prog 33 [aL (a0.map eTLeakedKey), aI a1] [.c (.d (.b r))] := by
  refine fn_in Try.func33 rfl (by kernel_rfl) Try.ntmps33 rfl rfl rfl ?_
  refine wk ?_
  obtain ⟨r1, hr1, H⟩ := ob H
  refine awr_n rfl (ca rfl rfl rfl (sSignalingKeyPath_c hr1) trivial rfl rfl rfl rfl) ?_
  refine wk ?_
  obtain ⟨r2, hr2, H⟩ := ob H
  refine awr_n rfl (ca rfl rfl rfl (sExposes_c hr2) ⟨by first | rfl | exact lm _, trivial⟩ rfl rfl rfl rfl) ?_
  refine wk ?_
  cases H
  exact fin_ret (.cons (.tmp rfl) .nil) rfl rfl rfl
def sl1In (a0 : Int) (a1 : Int) (a2 : Int) : Option Bool :=
  Option.bind (bif leB a1 a0 then (some (leB a0 a2)) else (some false)) fun (v1 : Bool) => some v1
theorem sl1In_c {a0 : Int} {a1 : Int} {a2 : Int} {r : Bool} (H : sl1In a0 a1 a2 = some r) : Fn Try.prog 86 [aI a0, aI a1, aI a2] [.c (.d (.b r))] := by
  refine fn_in Try.func86 rfl (by kernel_rfl) Try.ntmps86 rfl rfl rfl ?_
  refine wk ?_
  obtain ⟨v1, Hj, H⟩ := ob H
  refine awr_join ⟨[(6, tB v1)], [], 0⟩ ?_ ?_
  · have H := Hj
    refine wk ?_
    refine g2 rfl rfl rfl (fun h => ?_) (fun h => ?_)
    · have H := bt h H
      refine wk ?_
      cases H
      exact weak_of ⟨rfl, rfl, trivial⟩ trivial
    · have H := bf h H
      refine wk ?_
      cases H
      exact weak_of ⟨rfl, rfl, trivial⟩ trivial
  refine wk ?_
  cases H
  exact fin_ret (.cons (.tmp rfl) .nil) rfl rfl rfl
def sIsValidSubscriberID (a0 : TSubscriberID) : Option Bool :=
  Option.bind (sl1In a0.Network 0 3) fun r1 => Option.bind (bif r1 then (Option.bind (sl1In a0.Number 0 99) fun r3 => some r3) else (some false)) fun (v2 : Bool) => some v2
theorem sIsValidSubscriberID_c {a0 : TSubscriberID} {r : Bool} (H : sIsValidSubscriberID a0 = some r) : Fn Try.prog 43 [.agg (eTSubscriberID a0)] [.c (.d (.b r))] := by
  refine fn_in Try.func43 rfl (by kernel_rfl) Try.ntmps43 rfl rfl rfl ?_
  refine wk ?_
  obtain ⟨r1, hr1, H⟩ := ob H
  refine awr_n rfl (ca rfl rfl rfl (sl1In_c hr1) trivial rfl rfl rfl rfl) ?_
  refine wk ?_
  obtain ⟨v2, Hj, H⟩ := ob H
  refine awr_join ⟨[(2, tB v2)], [], 0⟩ ?_ ?_
  · have H := Hj
    refine wk ?_
    refine g2 rfl rfl rfl (fun h => ?_) (fun h => ?_)
    · have H := bt h H
      refine wk ?_
      obtain ⟨r3, hr3, H⟩ := ob H
      refine awr_ng rfl rfl rfl rfl (ca rfl rfl rfl (sl1In_c hr3) trivial rfl rfl rfl rfl) ?_
      refine wk ?_
      cases H
      exact weak_of ⟨rfl, rfl, trivial⟩ trivial
    · have H := bf h H
      refine wk ?_
      cases H
      exact weak_of ⟨rfl, rfl, trivial⟩ trivial
  refine wk ?_
  cases H
  exact fin_ret (.cons (.tmp rfl) .nil) rfl rfl rfl
def sFindAgreement_L1 (a0 : List TRoamingAgreement) (a1 : Int) (a2 : Int) : Int → Option (Step (Int) (Int))
  | v1 => bif ltB v1 ((a0.length : Nat) : Int) then (Option.bind (ix a0 v1) fun x2 => Option.bind (bif eqB x2.Home a1 then (Option.bind (ix a0 v1) fun x4 => some (eqB x4.Visited a2)) else (some false)) fun (v3 : Bool) => bif v3 then (dn (some v1)) else (some (.next (WR (v1 + 1))))) else (dn (some (-1)))
def sFindAgreement (a0 : List TRoamingAgreement) (a1 : Int) (a2 : Int) : Option Int :=
  iter (sFindAgreement_L1 a0 a1 a2) FU 0
theorem sFindAgreement_c {a0 : List TRoamingAgreement} {a1 : Int} {a2 : Int} {r : Int} (H : sFindAgreement a0 a1 a2 = some r) : Fn Try.prog 48 [aL (a0.map eTRoamingAgreement), aI a1, aI a2] [.c (.d (.i .i64 r))] := by
  refine fn_in Try.func48 rfl (by kernel_rfl) Try.ntmps48 rfl rfl rfl ?_
  refine wk ?_
  refine awc_iter (fun (q : Int) => ⟨[(0, .v (.c (.d false (.l (a0.map eTRoamingAgreement))))), (1, tI a1), (2, tI a2), (7, tI q)], [], 0⟩) H (weak_of ⟨rfl, rfl, rfl, rfl, rfl, rfl, rfl, rfl, trivial⟩ trivial) ?_
  rintro v1 o H
  try dsimp only
  refine wk ?_
  refine awc_cond rfl (fun h => ?_) (fun h => ?_)
  · have H := bt h H
    refine wk ?_
    obtain ⟨x2, hx2, H⟩ := ob H
    refine awr_n rfl (xdT (enc := eTRoamingAgreement) hx2 (fun _ => rfl) rfl rfl rfl) ?_
    refine wk ?_
    obtain ⟨v3, Hj, H⟩ := ob H
    refine awr_join ⟨[(0, .v (.c (.d false (.l (a0.map eTRoamingAgreement))))), (1, tI a1), (2, tI a2), (7, tI v1), (29, tB v3)], [], 0⟩ ?_ ?_
    · have H := Hj
      refine wk ?_
      refine g2 rfl rfl rfl (fun h => ?_) (fun h => ?_)
      · have H := bt h H
        refine wk ?_
        obtain ⟨x4, hx4, H⟩ := ob H
        refine awr_ng rfl rfl rfl rfl (xdT (enc := eTRoamingAgreement) hx4 (fun _ => rfl) rfl rfl rfl) ?_
        refine wk ?_
        cases H
        exact weak_of ⟨rfl, rfl, rfl, rfl, rfl, rfl, rfl, rfl, rfl, rfl, trivial⟩ trivial
      · have H := bf h H
        refine wk ?_
        cases H
        exact weak_of ⟨rfl, rfl, rfl, rfl, rfl, rfl, rfl, rfl, rfl, rfl, trivial⟩ trivial
    refine wk ?_
    refine awc_cond rfl (fun h => ?_) (fun h => ?_)
    · have H := bt h H
      refine wk ?_
      obtain ⟨r0, Hd, rfl⟩ := dnE H
      refine iq_r (fun hq => ?_)
      have H := Hd.trans (congrArg some hq)
      refine wk ?_
      cases H
      exact fin_ret (.cons (.tmp rfl) .nil) rfl rfl rfl
    · have H := bf h H
      refine wk ?_
      cases H
      refine iq_n ?_
      exact weak_of ⟨rfl, rfl, rfl, rfl, rfl, rfl, rfl, rfl, trivial⟩ trivial
  · have H := bf h H
    refine wk ?_
    obtain ⟨r0, Hd, rfl⟩ := dnE H
    refine iq_e (fun hq => ?_)
    have H := Hd.trans (congrArg some hq)
    refine wk ?_
    cases H
    exact fin_ret (.cons (.tmp rfl) .nil) rfl rfl rfl
def sIsValidAgreement (a0 : TRoamingAgreement) : Option Bool :=
  Option.bind (sl1In a0.Home 0 3) fun r1 => Option.bind (bif r1 then (Option.bind (sl1In a0.Visited 0 3) fun r3 => bif r3 then (bif !eqB a0.Home a0.Visited then (Option.bind (sl1In a0.Price 0 1000) fun r4 => bif r4 then (Option.bind (sl1In a0.Cap 0 1000000000000) fun r5 => some r5) else (some false)) else (some false)) else (some false)) else (some false)) fun (v2 : Bool) => some v2
theorem sIsValidAgreement_c {a0 : TRoamingAgreement} {r : Bool} (H : sIsValidAgreement a0 = some r) : Fn Try.prog 49 [.agg (eTRoamingAgreement a0)] [.c (.d (.b r))] := by
  refine fn_in Try.func49 rfl (by kernel_rfl) Try.ntmps49 rfl rfl rfl ?_
  refine wk ?_
  obtain ⟨r1, hr1, H⟩ := ob H
  refine awr_n rfl (ca rfl rfl rfl (sl1In_c hr1) trivial rfl rfl rfl rfl) ?_
  refine wk ?_
  obtain ⟨v2, Hj, H⟩ := ob H
  refine awr_join ⟨[(2, tB v2)], [], 0⟩ ?_ ?_
  · have H := Hj
    refine wk ?_
    refine g2 rfl rfl rfl (fun h => ?_) (fun h => ?_)
    · have H := bt h H
      refine wk ?_
      obtain ⟨r3, hr3, H⟩ := ob H
      refine awr_ng rfl rfl rfl rfl (ca rfl rfl rfl (sl1In_c hr3) trivial rfl rfl rfl rfl) ?_
      refine wk ?_
      refine g2 rfl rfl rfl (fun h => ?_) (fun h => ?_)
      · have H := bt h H
        refine wk ?_
        refine g2 rfl rfl rfl (fun h => ?_) (fun h => ?_)
        · have H := bt h H
          refine wk ?_
          obtain ⟨r4, hr4, H⟩ := ob H
          refine awr_ng rfl rfl rfl rfl (ca rfl rfl rfl (sl1In_c hr4) trivial rfl rfl rfl rfl) ?_
          refine wk ?_
          refine g2 rfl rfl rfl (fun h => ?_) (fun h => ?_)
          · have H := bt h H
            refine wk ?_
            obtain ⟨r5, hr5, H⟩ := ob H
            refine awr_ng rfl rfl rfl rfl (ca rfl rfl rfl (sl1In_c hr5) trivial rfl rfl rfl rfl) ?_
            refine wk ?_
            cases H
            exact weak_of ⟨rfl, rfl, trivial⟩ trivial
          · have H := bf h H
            refine wk ?_
            cases H
            exact weak_of ⟨rfl, rfl, trivial⟩ trivial
        · have H := bf h H
          refine wk ?_
          cases H
          exact weak_of ⟨rfl, rfl, trivial⟩ trivial
      · have H := bf h H
        refine wk ?_
        cases H
        exact weak_of ⟨rfl, rfl, trivial⟩ trivial
    · have H := bf h H
      refine wk ?_
      cases H
      exact weak_of ⟨rfl, rfl, trivial⟩ trivial
  refine wk ?_
  cases H
  exact fin_ret (.cons (.tmp rfl) .nil) rfl rfl rfl
def sl10Has_L1 (a0 : List Int) (a1 : Int) : Int → Option (Step (Int) (Bool))
  | v1 => bif ltB v1 ((a0.length : Nat) : Int) then (Option.bind (ix a0 v1) fun x2 => bif eqB x2 a1 then (dn (some true)) else (some (.next (WR (v1 + 1))))) else (dn (some false))
def sl10Has (a0 : List Int) (a1 : Int) : Option Bool :=
  iter (sl10Has_L1 a0 a1) FU 0
theorem sl10Has_c {a0 : List Int} {a1 : Int} {r : Bool} (H : sl10Has a0 a1 = some r) : Fn Try.prog 151 [aL (a0.map eI), aI a1] [.c (.d (.b r))] := by
  refine fn_in Try.func151 rfl (by kernel_rfl) Try.ntmps151 rfl rfl rfl ?_
  refine wk ?_
  refine awc_iter (fun (q : Int) => ⟨[(0, .v (.c (.d false (.l (a0.map eI))))), (1, tI a1), (5, tI q)], [], 0⟩) H (weak_of ⟨rfl, rfl, rfl, rfl, rfl, rfl, trivial⟩ trivial) ?_
  rintro v1 o H
  try dsimp only
  refine wk ?_
  refine awc_cond rfl (fun h => ?_) (fun h => ?_)
  · have H := bt h H
    refine wk ?_
    obtain ⟨x2, hx2, H⟩ := ob H
    refine awr_n rfl (xdT (enc := eI) hx2 (fun _ => rfl) rfl rfl rfl) ?_
    refine wk ?_
    refine awc_cond rfl (fun h => ?_) (fun h => ?_)
    · have H := bt h H
      refine wk ?_
      obtain ⟨r0, Hd, rfl⟩ := dnE H
      refine iq_r (fun hq => ?_)
      have H := Hd.trans (congrArg some hq)
      refine wk ?_
      cases H
      exact fin_ret (.cons (.tmp rfl) .nil) rfl rfl rfl
    · have H := bf h H
      refine wk ?_
      cases H
      refine iq_n ?_
      exact weak_of ⟨rfl, rfl, rfl, rfl, rfl, rfl, trivial⟩ trivial
  · have H := bf h H
    refine wk ?_
    obtain ⟨r0, Hd, rfl⟩ := dnE H
    refine iq_e (fun hq => ?_)
    have H := Hd.trans (congrArg some hq)
    refine wk ?_
    cases H
    exact fin_ret (.cons (.tmp rfl) .nil) rfl rfl rfl
def sRoamingAllowed (a0 : TSubscription) (a1 : Int) (a2 : Int) : Option Bool :=
  Option.bind (bif eqB a2 a1 then (some true) else (Option.bind (sl10Has a0.RoamingNetworks a2) fun r2 => some r2)) fun (v1 : Bool) => some v1
theorem sRoamingAllowed_c {a0 : TSubscription} {a1 : Int} {a2 : Int} {r : Bool} (H : sRoamingAllowed a0 a1 a2 = some r) : Fn Try.prog 112 [.agg (eTSubscription a0), aI a1, aI a2] [.c (.d (.b r))] := by
  refine fn_in Try.func112 rfl (by kernel_rfl) Try.ntmps112 rfl rfl rfl ?_
  refine wk ?_
  obtain ⟨v1, Hj, H⟩ := ob H
  refine awr_join ⟨[(6, tB v1)], [], 0⟩ ?_ ?_
  · have H := Hj
    refine wk ?_
    refine g2 rfl rfl rfl (fun h => ?_) (fun h => ?_)
    · have H := bt h H
      refine wk ?_
      cases H
      exact weak_of ⟨rfl, rfl, trivial⟩ trivial
    · have H := bf h H
      refine wk ?_
      obtain ⟨r2, hr2, H⟩ := ob H
      refine awr_ng rfl rfl rfl rfl (ca rfl rfl rfl (sl10Has_c hr2) trivial rfl rfl rfl rfl) ?_
      refine wk ?_
      cases H
      exact weak_of ⟨rfl, rfl, trivial⟩ trivial
  refine wk ?_
  cases H
  exact fin_ret (.cons (.tmp rfl) .nil) rfl rfl rfl
def sCheckRoaming (a0 : TSubscription) (a1 : List TRoamingAgreement) (a2 : TSubscriberID) (a3 : Int) : Option Int :=
  Option.bind (sFindAgreement a1 a2.Network a3) fun r1 => Option.bind (sl1In a3 0 3) fun r2 => Option.bind (bif !r2 then (some true) else (Option.bind (sIsValidSubscriberID a2) fun r4 => some (!r4))) fun (v3 : Bool) => bif v3 then (some 1) else (bif eqB a3 a2.Network then (some 0) else (Option.bind (sRoamingAllowed a0 a2.Network a3) fun r5 => bif !r5 then (some 2) else (Option.bind (bif ltB r1 0 then (some true) else (Option.bind (ix a1 r1) fun x7 => Option.bind (sIsValidAgreement x7) fun r8 => some (!r8))) fun (v6 : Bool) => bif v6 then (some 3) else (some 0))))
theorem sCheckRoaming_c {a0 : TSubscription} {a1 : List TRoamingAgreement} {a2 : TSubscriberID} {a3 : Int} {r : Int} (H : sCheckRoaming a0 a1 a2 a3 = some r) : Fn Try.prog 58 [.agg (eTSubscription a0), aL (a1.map eTRoamingAgreement), .agg (eTSubscriberID a2), aI a3] [.c (.d (.i .i64 r))] := by
  refine fn_in Try.func58 rfl (by kernel_rfl) Try.ntmps58 rfl rfl rfl ?_
  refine wk ?_
  obtain ⟨r1, hr1, H⟩ := ob H
  refine awr_n rfl (ca rfl rfl rfl (sFindAgreement_c hr1) trivial rfl rfl rfl rfl) ?_
  refine wk ?_
  obtain ⟨r2, hr2, H⟩ := ob H
  refine awr_n rfl (ca rfl rfl rfl (sl1In_c hr2) trivial rfl rfl rfl rfl) ?_
  refine wk ?_
  obtain ⟨v3, Hj, H⟩ := ob H
  refine awr_join ⟨[(1, .v (.c (.d false (.l (a1.map eTRoamingAgreement))))), (3, tI a3), (4, .v (.c (.p 0 0))), (6, .v (.c (.p 1 0))), (9, tI r1), (15, tB v3)], [(0, .var 68 [.d false (.i .i64 a0.RateLimit), .d false (.i .i64 a0.BestClass), .d false (.i .i64 a0.GrantSize), .d false (.l (a0.RoamingNetworks.map eI))]), (1, .var 60 [.d false (.i .i64 a2.Network), .d false (.i .i64 a2.Number)])], 2⟩ ?_ ?_
  · have H := Hj
    refine wk ?_
    refine g2 rfl rfl rfl (fun h => ?_) (fun h => ?_)
    · have H := bt h H
      refine wk ?_
      cases H
      exact weak_of ⟨rfl, rfl, rfl, rfl, rfl, rfl, rfl, rfl, rfl, rfl, rfl, rfl, trivial⟩ ⟨rfl, ⟨rfl, rfl⟩, rfl, ⟨rfl, rfl⟩, trivial⟩
    · have H := bf h H
      refine wk ?_
      obtain ⟨r4, hr4, H⟩ := ob H
      refine awr_ng rfl rfl rfl rfl (ca rfl rfl rfl (sIsValidSubscriberID_c hr4) trivial rfl rfl rfl rfl) ?_
      refine wk ?_
      cases H
      exact weak_of ⟨rfl, rfl, rfl, rfl, rfl, rfl, rfl, rfl, rfl, rfl, rfl, rfl, trivial⟩ ⟨rfl, ⟨rfl, rfl⟩, rfl, ⟨rfl, rfl⟩, trivial⟩
  refine wk ?_
  refine awc_cond rfl (fun h => ?_) (fun h => ?_)
  · have H := bt h H
    refine wk ?_
    cases H
    exact fin_ret (.cons (.tmp rfl) .nil) rfl rfl rfl
  · have H := bf h H
    refine wk ?_
    refine awc_cond rfl (fun h => ?_) (fun h => ?_)
    · have H := bt h H
      refine wk ?_
      cases H
      exact fin_ret (.cons (.tmp rfl) .nil) rfl rfl rfl
    · have H := bf h H
      refine wk ?_
      obtain ⟨r5, hr5, H⟩ := ob H
      refine awr_n rfl (ca rfl rfl rfl (sRoamingAllowed_c hr5) trivial rfl rfl rfl rfl) ?_
      refine wk ?_
      refine awc_cond rfl (fun h => ?_) (fun h => ?_)
      · have H := bt h H
        refine wk ?_
        cases H
        exact fin_ret (.cons (.tmp rfl) .nil) rfl rfl rfl
      · have H := bf h H
        refine wk ?_
        obtain ⟨v6, Hj, H⟩ := ob H
        refine awr_join ⟨[(36, tB v6)], [], 0⟩ ?_ ?_
        · have H := Hj
          refine wk ?_
          refine g2 rfl rfl rfl (fun h => ?_) (fun h => ?_)
          · have H := bt h H
            refine wk ?_
            cases H
            exact weak_of ⟨rfl, rfl, trivial⟩ trivial
          · have H := bf h H
            refine wk ?_
            obtain ⟨x7, hx7, H⟩ := ob H
            refine awr_ng rfl rfl rfl rfl (xdT (enc := eTRoamingAgreement) hx7 (fun _ => rfl) rfl rfl rfl) ?_
            refine wk ?_
            obtain ⟨r8, hr8, H⟩ := ob H
            refine awr_ng rfl rfl rfl rfl (ca rfl rfl rfl (sIsValidAgreement_c hr8) trivial rfl rfl rfl rfl) ?_
            refine wk ?_
            cases H
            exact weak_of ⟨rfl, rfl, trivial⟩ trivial
        refine wk ?_
        refine awc_cond rfl (fun h => ?_) (fun h => ?_)
        · have H := bt h H
          refine wk ?_
          cases H
          exact fin_ret (.cons (.tmp rfl) .nil) rfl rfl rfl
        · have H := bf h H
          refine wk ?_
          cases H
          exact fin_ret (.cons (.tmp rfl) .nil) rfl rfl rfl
def sIsValidRecord (a0 : TUsageRecord) : Option Bool :=
  Option.bind (sl1In a0.Network 0 3) fun r1 => Option.bind (bif r1 then (bif leB 0 a0.SessionID then (Option.bind (sl1In a0.Seq 1 100000) fun r3 => bif r3 then (Option.bind (sl1In a0.Bytes 0 100000) fun r4 => some r4) else (some false)) else (some false)) else (some false)) fun (v2 : Bool) => some v2
theorem sIsValidRecord_c {a0 : TUsageRecord} {r : Bool} (H : sIsValidRecord a0 = some r) : Fn Try.prog 131 [.agg (eTUsageRecord a0)] [.c (.d (.b r))] := by
  refine fn_in Try.func131 rfl (by kernel_rfl) Try.ntmps131 rfl rfl rfl ?_
  refine wk ?_
  obtain ⟨r1, hr1, H⟩ := ob H
  refine awr_n rfl (ca rfl rfl rfl (sl1In_c hr1) trivial rfl rfl rfl rfl) ?_
  refine wk ?_
  obtain ⟨v2, Hj, H⟩ := ob H
  refine awr_join ⟨[(2, tB v2)], [], 0⟩ ?_ ?_
  · have H := Hj
    refine wk ?_
    refine g2 rfl rfl rfl (fun h => ?_) (fun h => ?_)
    · have H := bt h H
      refine wk ?_
      refine g2 rfl rfl rfl (fun h => ?_) (fun h => ?_)
      · have H := bt h H
        refine wk ?_
        obtain ⟨r3, hr3, H⟩ := ob H
        refine awr_ng rfl rfl rfl rfl (ca rfl rfl rfl (sl1In_c hr3) trivial rfl rfl rfl rfl) ?_
        refine wk ?_
        refine g2 rfl rfl rfl (fun h => ?_) (fun h => ?_)
        · have H := bt h H
          refine wk ?_
          obtain ⟨r4, hr4, H⟩ := ob H
          refine awr_ng rfl rfl rfl rfl (ca rfl rfl rfl (sl1In_c hr4) trivial rfl rfl rfl rfl) ?_
          refine wk ?_
          cases H
          exact weak_of ⟨rfl, rfl, trivial⟩ trivial
        · have H := bf h H
          refine wk ?_
          cases H
          exact weak_of ⟨rfl, rfl, trivial⟩ trivial
      · have H := bf h H
        refine wk ?_
        cases H
        exact weak_of ⟨rfl, rfl, trivial⟩ trivial
    · have H := bf h H
      refine wk ?_
      cases H
      exact weak_of ⟨rfl, rfl, trivial⟩ trivial
  refine wk ?_
  cases H
  exact fin_ret (.cons (.tmp rfl) .nil) rfl rfl rfl
def sFindRecord_L1 (a0 : List TUsageRecord) (a1 : TUsageRecord) : Int → Option (Step (Int) (Int))
  | v1 => bif ltB v1 ((a0.length : Nat) : Int) then (Option.bind (ix a0 v1) fun x2 => Option.bind (bif eqB x2.Network a1.Network then (Option.bind (ix a0 v1) fun x4 => bif eqB x4.SessionID a1.SessionID then (Option.bind (ix a0 v1) fun x5 => some (eqB x5.Seq a1.Seq)) else (some false)) else (some false)) fun (v3 : Bool) => bif v3 then (dn (some v1)) else (some (.next (WR (v1 + 1))))) else (dn (some (-1)))
def sFindRecord (a0 : List TUsageRecord) (a1 : TUsageRecord) : Option Int :=
  iter (sFindRecord_L1 a0 a1) FU 0
theorem sFindRecord_c {a0 : List TUsageRecord} {a1 : TUsageRecord} {r : Int} (H : sFindRecord a0 a1 = some r) : Fn Try.prog 132 [aL (a0.map eTUsageRecord), .agg (eTUsageRecord a1)] [.c (.d (.i .i64 r))] := by
  refine fn_in Try.func132 rfl (by kernel_rfl) Try.ntmps132 rfl rfl rfl ?_
  refine wkd ?_
  refine awc_iter (fun (q : Int) => ⟨[(0, .v (.c (.d false (.l (a0.map eTUsageRecord))))), (3, .v (.c (.p 0 0))), (5, tI q)], [(0, .var 129 [.d false (.i .i64 a1.Network), .d false (.i .i64 a1.SessionID), .d false (.i .i64 a1.Seq), .d false (.i .i64 a1.Bytes)])], 1⟩) H (weak_of ⟨rfl, rfl, rfl, rfl, rfl, rfl, trivial⟩ ⟨rfl, ⟨rfl, rfl⟩, trivial⟩) ?_
  rintro v1 o H
  try dsimp only
  refine wkd ?_
  refine awc_cond rfl (fun h => ?_) (fun h => ?_)
  · have H := bt h H
    refine wkd ?_
    obtain ⟨x2, hx2, H⟩ := ob H
    refine dr_n rfl (xdT (enc := eTUsageRecord) hx2 (fun _ => rfl) rfl rfl rfl) ?_
    refine wkd ?_
    obtain ⟨v3, Hj, H⟩ := ob H
    refine dr_join ⟨[(0, .v (.c (.d false (.l (a0.map eTUsageRecord))))), (3, .v (.c (.p 0 0))), (5, tI v1), (39, tB v3)], [(0, .var 129 [.d false (.i .i64 a1.Network), .d false (.i .i64 a1.SessionID), .d false (.i .i64 a1.Seq), .d false (.i .i64 a1.Bytes)])], 1⟩ ?_ ?_
    · have H := Hj
      refine wkd ?_
      refine dg2 rfl rfl rfl (fun h => ?_) (fun h => ?_)
      · have H := bt h H
        refine wkd ?_
        obtain ⟨x4, hx4, H⟩ := ob H
        refine dr_ng rfl rfl rfl rfl (xdT (enc := eTUsageRecord) hx4 (fun _ => rfl) rfl rfl rfl) ?_
        refine wkd ?_
        refine dg2 rfl rfl rfl (fun h => ?_) (fun h => ?_)
        · have H := bt h H
          refine wkd ?_
          obtain ⟨x5, hx5, H⟩ := ob H
          refine dr_ng rfl rfl rfl rfl (xdT (enc := eTUsageRecord) hx5 (fun _ => rfl) rfl rfl rfl) ?_
          refine wkd ?_
          cases H
          exact weak_of ⟨rfl, rfl, rfl, rfl, rfl, rfl, rfl, rfl, trivial⟩ ⟨rfl, ⟨rfl, rfl⟩, trivial⟩
        · have H := bf h H
          refine wkd ?_
          cases H
          exact weak_of ⟨rfl, rfl, rfl, rfl, rfl, rfl, rfl, rfl, trivial⟩ ⟨rfl, ⟨rfl, rfl⟩, trivial⟩
      · have H := bf h H
        refine wkd ?_
        cases H
        exact weak_of ⟨rfl, rfl, rfl, rfl, rfl, rfl, rfl, rfl, trivial⟩ ⟨rfl, ⟨rfl, rfl⟩, trivial⟩
    refine wkd ?_
    refine awc_cond rfl (fun h => ?_) (fun h => ?_)
    · have H := bt h H
      refine wkd ?_
      obtain ⟨r0, Hd, rfl⟩ := dnE H
      refine iq_r (fun hq => ?_)
      have H := Hd.trans (congrArg some hq)
      refine wkd ?_
      cases H
      exact fin_ret (.cons (.tmp rfl) .nil) rfl rfl rfl
    · have H := bf h H
      refine wkd ?_
      cases H
      refine iq_n ?_
      exact weak_of ⟨rfl, rfl, rfl, rfl, rfl, rfl, trivial⟩ ⟨rfl, ⟨rfl, rfl⟩, trivial⟩
  · have H := bf h H
    refine wkd ?_
    obtain ⟨r0, Hd, rfl⟩ := dnE H
    refine iq_e (fun hq => ?_)
    have H := Hd.trans (congrArg some hq)
    refine wkd ?_
    cases H
    exact fin_ret (.cons (.tmp rfl) .nil) rfl rfl rfl
def sAreValidRecords_L1 (a0 : List TUsageRecord) : Int → Option (Step (Int) (Bool))
  | v1 => bif ltB v1 ((a0.length : Nat) : Int) then (Option.bind (ix a0 v1) fun x2 => Option.bind (sIsValidRecord x2) fun r3 => Option.bind (bif !r3 then (some true) else (bif slOk a0 0 v1 then (Option.bind (ix a0 v1) fun x5 => Option.bind (sFindRecord (a0.take (v1).toNat) x5) fun r6 => some (leB 0 r6)) else none)) fun (v4 : Bool) => bif v4 then (dn (some false)) else (some (.next (WR (v1 + 1))))) else (dn (some (leB ((a0.length : Nat) : Int) 24)))
def sAreValidRecords (a0 : List TUsageRecord) : Option Bool :=
  iter (sAreValidRecords_L1 a0) FU 0
theorem sAreValidRecords_c {a0 : List TUsageRecord} {r : Bool} (H : sAreValidRecords a0 = some r) : Fn Try.prog 87 [aL (a0.map eTUsageRecord)] [.c (.d (.b r))] := by
  refine fn_in Try.func87 rfl (by kernel_rfl) Try.ntmps87 rfl rfl rfl ?_
  refine wkd ?_
  refine awc_iter (fun (q : Int) => ⟨[(0, .v (.c (.d false (.l (a0.map eTUsageRecord))))), (3, tI q)], [], 0⟩) H (weak_of ⟨rfl, rfl, rfl, rfl, trivial⟩ trivial) ?_
  rintro v1 o H
  try dsimp only
  refine wkd ?_
  refine awc_cond rfl (fun h => ?_) (fun h => ?_)
  · have H := bt h H
    refine wkd ?_
    obtain ⟨x2, hx2, H⟩ := ob H
    refine dr_n rfl (xdT (enc := eTUsageRecord) hx2 (fun _ => rfl) rfl rfl rfl) ?_
    refine wkd ?_
    obtain ⟨r3, hr3, H⟩ := ob H
    refine dr_n rfl (ca rfl rfl rfl (sIsValidRecord_c hr3) trivial rfl rfl rfl rfl) ?_
    refine wkd ?_
    obtain ⟨v4, Hj, H⟩ := ob H
    refine dr_join ⟨[(0, .v (.c (.d false (.l (a0.map eTUsageRecord))))), (3, tI v1), (26, tB v4)], [], 0⟩ ?_ ?_
    · have H := Hj
      refine wkd ?_
      refine dg2 rfl rfl rfl (fun h => ?_) (fun h => ?_)
      · have H := bt h H
        refine wkd ?_
        cases H
        exact weak_of ⟨rfl, rfl, rfl, rfl, rfl, rfl, trivial⟩ trivial
      · have H := bf h H
        refine wkd ?_
        obtain ⟨h, H⟩ := rq H
        refine dr_ng rfl rfl rfl rfl (cdhT (enc := eTUsageRecord) h (fun _ => rfl) rfl rfl rfl) ?_
        refine wkd ?_
        obtain ⟨x5, hx5, H⟩ := ob H
        refine dr_ng rfl rfl rfl rfl (xdT (enc := eTUsageRecord) hx5 (fun _ => rfl) rfl rfl rfl) ?_
        refine wkd ?_
        obtain ⟨r6, hr6, H⟩ := ob H
        refine dr_ng rfl rfl rfl rfl (ca rfl rfl rfl (sFindRecord_c hr6) trivial rfl rfl rfl rfl) ?_
        refine wkd ?_
        cases H
        exact weak_of ⟨rfl, rfl, rfl, rfl, rfl, rfl, trivial⟩ trivial
    refine wkd ?_
    refine awc_cond rfl (fun h => ?_) (fun h => ?_)
    · have H := bt h H
      refine wkd ?_
      obtain ⟨r0, Hd, rfl⟩ := dnE H
      refine iq_r (fun hq => ?_)
      have H := Hd.trans (congrArg some hq)
      refine wkd ?_
      cases H
      exact fin_ret (.cons (.tmp rfl) .nil) rfl rfl rfl
    · have H := bf h H
      refine wkd ?_
      cases H
      refine iq_n ?_
      exact weak_of ⟨rfl, rfl, rfl, rfl, trivial⟩ trivial
  · have H := bf h H
    refine wkd ?_
    obtain ⟨r0, Hd, rfl⟩ := dnE H
    refine iq_e (fun hq => ?_)
    have H := Hd.trans (congrArg some hq)
    refine wkd ?_
    cases H
    exact fin_ret (.cons (.tmp rfl) .nil) rfl rfl rfl
def sIsValidBook_L1 (a0 : TOperatorBook) : Int → Option (Step (Int) (Bool))
  | v1 => bif ltB v1 ((a0.Claims.length : Nat) : Int) then (Option.bind (ix a0.Claims v1) fun x2 => bif !eqB x2.Network a0.Network then (dn (some false)) else (some (.next (WR (v1 + 1))))) else (dn (Option.bind (sl1In a0.Network 0 3) fun r3 => Option.bind (bif r3 then (Option.bind (sAreValidRecords a0.Own) fun r5 => bif r5 then (Option.bind (sAreValidRecords a0.Claims) fun r6 => some r6) else (some false)) else (some false)) fun (v4 : Bool) => some v4))
def sIsValidBook (a0 : TOperatorBook) : Option Bool :=
  iter (sIsValidBook_L1 a0) FU 0
theorem sIsValidBook_c {a0 : TOperatorBook} {r : Bool} (H : sIsValidBook a0 = some r) : Fn Try.prog 28 [.agg (eTOperatorBook a0)] [.c (.d (.b r))] := by
  refine fn_in Try.func28 rfl (by kernel_rfl) Try.ntmps28 rfl rfl rfl ?_
  refine wkd ?_
  refine awc_iter (fun (q : Int) => ⟨[(1, .v (.c (.p 0 0))), (3, tI q)], [(0, .var 44 [.d false (.i .i64 a0.Network), .d false (.l (a0.Own.map eTUsageRecord)), .d false (.l (a0.Claims.map eTUsageRecord))])], 1⟩) H (weak_of ⟨rfl, rfl, rfl, rfl, trivial⟩ ⟨rfl, ⟨rfl, rfl⟩, trivial⟩) ?_
  rintro v1 o H
  try dsimp only
  refine wkd ?_
  refine awc_cond rfl (fun h => ?_) (fun h => ?_)
  · have H := bt h H
    refine wkd ?_
    obtain ⟨x2, hx2, H⟩ := ob H
    refine dr_n rfl (xdT (enc := eTUsageRecord) hx2 (fun _ => rfl) rfl rfl rfl) ?_
    refine wkd ?_
    refine awc_cond rfl (fun h => ?_) (fun h => ?_)
    · have H := bt h H
      refine wkd ?_
      obtain ⟨r0, Hd, rfl⟩ := dnE H
      refine iq_r (fun hq => ?_)
      have H := Hd.trans (congrArg some hq)
      refine wkd ?_
      cases H
      exact fin_ret (.cons (.tmp rfl) .nil) rfl rfl rfl
    · have H := bf h H
      refine wkd ?_
      cases H
      refine iq_n ?_
      exact weak_of ⟨rfl, rfl, rfl, rfl, trivial⟩ ⟨rfl, ⟨rfl, rfl⟩, trivial⟩
  · have H := bf h H
    refine wkd ?_
    obtain ⟨r0, Hd, rfl⟩ := dnE H
    refine iq_e (fun hq => ?_)
    have H := Hd.trans (congrArg some hq)
    refine wkd ?_
    obtain ⟨r3, hr3, H⟩ := ob H
    refine awr_n rfl (ca rfl rfl rfl (sl1In_c hr3) trivial rfl rfl rfl rfl) ?_
    refine wkd ?_
    obtain ⟨v4, Hj, H⟩ := ob H
    refine awr_join ⟨[(2, tB v4)], [], 0⟩ ?_ ?_
    · have H := Hj
      refine wkd ?_
      refine g2 rfl rfl rfl (fun h => ?_) (fun h => ?_)
      · have H := bt h H
        refine wkd ?_
        obtain ⟨r5, hr5, H⟩ := ob H
        refine awr_ng rfl rfl rfl rfl (ca rfl rfl rfl (sAreValidRecords_c hr5) trivial rfl rfl rfl rfl) ?_
        refine wkd ?_
        refine g2 rfl rfl rfl (fun h => ?_) (fun h => ?_)
        · have H := bt h H
          refine wkd ?_
          obtain ⟨r6, hr6, H⟩ := ob H
          refine awr_ng rfl rfl rfl rfl (ca rfl rfl rfl (sAreValidRecords_c hr6) trivial rfl rfl rfl rfl) ?_
          refine wkd ?_
          cases H
          exact weak_of ⟨rfl, rfl, trivial⟩ trivial
        · have H := bf h H
          refine wkd ?_
          cases H
          exact weak_of ⟨rfl, rfl, trivial⟩ trivial
      · have H := bf h H
        refine wkd ?_
        cases H
        exact weak_of ⟨rfl, rfl, trivial⟩ trivial
    refine wkd ?_
    cases H
    exact fin_ret (.cons (.tmp rfl) .nil) rfl rfl rfl
end Go.AM
