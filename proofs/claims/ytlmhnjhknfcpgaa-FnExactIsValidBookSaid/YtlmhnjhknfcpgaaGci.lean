/-
  Own text: a part of the abstract machine for this seat (Gci). No statement is proved here.
-/
import Derived.Test.YtlmhnjhknfcpgaaGcg
set_option linter.unusedVariables false
namespace Go.AM
open Go.Proofs
attribute [local irreducible] AWN NS AWO AWR AWC DR Weak iterQ
set_option maxRecDepth 100000
set_option maxHeartbeats 4000000
def iEqualInts (a0 : List Int) (a1 : List Int) : Option Bool :=
  Option.bind (gslices_Equal_int_int a0 a1) fun r1 => some r1
theorem iEqualInts_c {a0 : List Int} {a1 : List Int} {r : Bool} (H : iEqualInts a0 a1 = some r) : Fn Try.prog 159 [aL (a0.map eI), aL (a1.map eI)] [.c (.d (.b r))] := by
  refine fn_in Try.func159 rfl (by kernel_rfl) Try.ntmps159 rfl rfl rfl ?_
  refine wk ?_
  obtain ⟨r1, hr1, H⟩ := ob H
  refine awr_n rfl (ca rfl rfl rfl (gslices_Equal_int_int_c hr1) trivial rfl rfl rfl rfl) ?_
  refine wk ?_
  cases H
  exact fin_ret (.cons (.tmp rfl) .nil) rfl rfl rfl
def iIsPrefixPath (a0 : TKeyPath) (a1 : TKeyPath) : Option Bool :=
  Option.bind (bif leB ((a0.Steps.length : Nat) : Int) ((a1.Steps.length : Nat) : Int) then (bif slOk a1.Steps 0 ((a0.Steps.length : Nat) : Int) then (Option.bind (iEqualInts a0.Steps (a1.Steps.take (((a0.Steps.length : Nat) : Int)).toNat)) fun r2 => some r2) else none) else (some false)) fun (v1 : Bool) => some v1
theorem iIsPrefixPath_c {a0 : TKeyPath} {a1 : TKeyPath} {r : Bool} (H : iIsPrefixPath a0 a1 = some r) : Fn Try.prog 140 [.agg (eTKeyPath a0), .agg (eTKeyPath a1)] [.c (.d (.b r))] := by
  refine fn_in Try.func140 rfl (by kernel_rfl) Try.ntmps140 rfl rfl rfl ?_
  refine wkd ?_
  obtain ⟨v1, Hj, H⟩ := ob H
  refine dr_join ⟨[(4, tB v1)], [], 0⟩ ?_ ?_
  · have H := Hj
    refine wkd ?_
    refine dg2 rfl rfl rfl (fun h => ?_) (fun h => ?_)
    · have H := bt h H
      refine wkd ?_
      obtain ⟨h, H⟩ := rq H
      refine dr_ng rfl rfl rfl rfl (cdhT (enc := eI) h (fun _ => rfl) rfl rfl rfl) ?_
      refine wkd ?_
      obtain ⟨r2, hr2, H⟩ := ob H
      refine dr_ng rfl rfl rfl rfl (ca rfl rfl rfl (iEqualInts_c hr2) trivial rfl rfl rfl rfl) ?_
      refine wkd ?_
      cases H
      exact weak_of ⟨rfl, rfl, trivial⟩ trivial
    · have H := bf h H
      refine wkd ?_
      cases H
      exact weak_of ⟨rfl, rfl, trivial⟩ trivial
  refine wkd ?_
  cases H
  exact fin_ret (.cons (.tmp rfl) .nil) rfl rfl rfl
def iExposes_L1 (a0 : List TLeakedKey) (a1 : Int) (a2 : TKeyPath) : Int → Option (Step (Int) (Bool))
  | v1 => bif ltB v1 ((a0.length : Nat) : Int) then (Option.bind (ix a0 v1) fun x2 => Option.bind (bif eqB x2.Generation a1 then (Option.bind (iIsPrefixPath x2.Path a2) fun r4 => some r4) else (some false)) fun (v3 : Bool) => bif v3 then (dn (some true)) else (some (.next (WR (v1 + 1))))) else (dn (some false))
def iExposes (a0 : List TLeakedKey) (a1 : Int) (a2 : TKeyPath) : Option Bool :=
  iter (iExposes_L1 a0 a1 a2) FU 0
theorem iExposes_c {a0 : List TLeakedKey} {a1 : Int} {a2 : TKeyPath} {r : Bool} (H : iExposes a0 a1 a2 = some r) : Fn Try.prog 96 [aL (a0.map eTLeakedKey), aI a1, .agg (eTKeyPath a2)] [.c (.d (.b r))] := by
  refine fn_in Try.func96 rfl (by kernel_rfl) Try.ntmps96 rfl rfl rfl ?_
  refine wk ?_
  refine awc_iter (fun (q : Int) => ⟨[(1, tI a1), (5, .v (.c (.p 0 0))), (9, .v (.c (.d false (.l (a0.map eTLeakedKey))))), (10, tI ((a0.length : Nat) : Int)), (11, tI q)], [(0, .var 140 [.d false (.l (a2.Steps.map eI))])], 1⟩) H (weak_of ⟨rfl, rfl, rfl, rfl, rfl, rfl, rfl, rfl, rfl, rfl, trivial⟩ ⟨rfl, ⟨rfl, rfl⟩, trivial⟩) ?_
  rintro v1 o H
  try dsimp only
  refine wk ?_
  refine awc_cond rfl (fun h => ?_) (fun h => ?_)
  · have H := bt h H
    refine wk ?_
    obtain ⟨x2, hx2, H⟩ := ob H
    refine awr_n rfl (xdT (enc := eTLeakedKey) hx2 (fun _ => rfl) rfl rfl rfl) ?_
    refine wk ?_
    obtain ⟨v3, Hj, H⟩ := ob H
    refine awr_join ⟨[(1, tI a1), (5, .v (.c (.p 0 0))), (9, .v (.c (.d false (.l (a0.map eTLeakedKey))))), (10, tI ((a0.length : Nat) : Int)), (11, tI v1), (24, tB v3)], [(0, .var 140 [.d false (.l (a2.Steps.map eI))])], 1⟩ ?_ ?_
    · have H := Hj
      refine wk ?_
      refine g2 rfl rfl rfl (fun h => ?_) (fun h => ?_)
      · have H := bt h H
        refine wk ?_
        obtain ⟨r4, hr4, H⟩ := ob H
        refine awr_ng rfl rfl rfl rfl (ca rfl rfl rfl (iIsPrefixPath_c hr4) trivial rfl rfl rfl rfl) ?_
        refine wk ?_
        cases H
        exact weak_of ⟨rfl, rfl, rfl, rfl, rfl, rfl, rfl, rfl, rfl, rfl, rfl, rfl, trivial⟩ ⟨rfl, ⟨rfl, rfl⟩, trivial⟩
      · have H := bf h H
        refine wk ?_
        cases H
        exact weak_of ⟨rfl, rfl, rfl, rfl, rfl, rfl, rfl, rfl, rfl, rfl, rfl, rfl, trivial⟩ ⟨rfl, ⟨rfl, rfl⟩, trivial⟩
    refine wk ?_
    refine awc_cond rfl (fun h => ?_) (fun h => ?_)
    · have H := bt h H
      refine wk ?_
      obtain ⟨r0, Hd, rfl⟩ := dnE H
      refine iq_r (fun hq => ?_)
      have H := Hd.trans (congrArg some hq)
      refine wk ?_
      cases H
      exact fin_ret (.cons (.tmp rfl) .nil) rfl rfl rfl
    · have H := bf h H
      refine wk ?_
      cases H
      refine iq_n ?_
      exact weak_of ⟨rfl, rfl, rfl, rfl, rfl, rfl, rfl, rfl, rfl, rfl, trivial⟩ ⟨rfl, ⟨rfl, rfl⟩, trivial⟩
  · have H := bf h H
    refine wk ?_
    obtain ⟨r0, Hd, rfl⟩ := dnE H
    refine iq_e (fun hq => ?_)
    have H := Hd.trans (congrArg some hq)
    refine wk ?_
    cases H
    exact fin_ret (.cons (.tmp rfl) .nil) rfl rfl rfl
def iSignalingKeyPath  : Option TKeyPath :=
  some (⟨[1, 2]⟩ : TKeyPath)
theorem iSignalingKeyPath_c  {r : TKeyPath} (H : iSignalingKeyPath = some r) : Fn Try.prog 97 [] [.agg [.own 3 1 (r.Steps.map eI) r.Steps.length]] := by
  refine fn_in Try.func97 rfl (by kernel_rfl) Try.ntmps97 rfl rfl rfl ?_
  refine wk ?_
  cases H
  exact fin_ret (.cons (.cell rfl rfl rfl) .nil) rfl rfl (by first | rfl | simp)
def iCanForgeSignals (a0 : List TLeakedKey) (a1 : Int) : Option Bool :=
  Option.bind (iSignalingKeyPath) fun r1 => Option.bind (iExposes a0 a1 r1) fun r2 => some r2
theorem iCanForgeSignals_c {a0 : List TLeakedKey} {a1 : Int} {r : Bool} (H : iCanForgeSignals a0 a1 = some r) : Fn Try.prog 35 [aL (a0.map eTLeakedKey), aI a1] [.c (.d (.b r))] := by
  refine fn_in Try.func35 rfl (by kernel_rfl) Try.ntmps35 rfl rfl rfl ?_
  refine wk ?_
  obtain ⟨r1, hr1, H⟩ := ob H
  refine awr_n rfl (ca rfl rfl rfl (iSignalingKeyPath_c hr1) trivial rfl rfl rfl rfl) ?_
  refine wk ?_
  obtain ⟨r2, hr2, H⟩ := ob H
  refine awr_n rfl (ca rfl rfl rfl (iExposes_c hr2) ⟨by first | rfl | exact lm _, trivial⟩ rfl rfl rfl rfl) ?_
  refine wk ?_
  cases H
  exact fin_ret (.cons (.tmp rfl) .nil) rfl rfl rfl
def iRoamingAllowed (a0 : TSubscription) (a1 : Int) (a2 : Int) : Option Bool :=
  Option.bind (bif eqB a2 a1 then (some true) else (Option.bind (gslices_Contains_int_int a0.RoamingNetworks a2) fun r2 => some r2)) fun (v1 : Bool) => some v1
theorem iRoamingAllowed_c {a0 : TSubscription} {a1 : Int} {a2 : Int} {r : Bool} (H : iRoamingAllowed a0 a1 a2 = some r) : Fn Try.prog 44 [.agg (eTSubscription a0), aI a1, aI a2] [.c (.d (.b r))] := by
  refine fn_in Try.func44 rfl (by kernel_rfl) Try.ntmps44 rfl rfl rfl ?_
  refine wk ?_
  obtain ⟨v1, Hj, H⟩ := ob H
  refine awr_join ⟨[(6, tB v1)], [], 0⟩ ?_ ?_
  · have H := Hj
    refine wk ?_
    refine g2 rfl rfl rfl (fun h => ?_) (fun h => ?_)
    · have H := bt h H
      refine wk ?_
      cases H
      exact weak_of ⟨rfl, rfl, trivial⟩ trivial
    · have H := bf h H
      refine wk ?_
      obtain ⟨r2, hr2, H⟩ := ob H
      refine awr_ng rfl rfl rfl rfl (ca rfl rfl rfl (gslices_Contains_int_int_c hr2) trivial rfl rfl rfl rfl) ?_
      refine wk ?_
      cases H
      exact weak_of ⟨rfl, rfl, trivial⟩ trivial
  refine wk ?_
  cases H
  exact fin_ret (.cons (.tmp rfl) .nil) rfl rfl rfl
def iFindAgreement_L1 (a0 : List TRoamingAgreement) (a1 : Int) (a2 : Int) : Int → Option (Step (Int) (Int))
  | v1 => bif ltB v1 ((a0.length : Nat) : Int) then (Option.bind (ix a0 v1) fun x2 => Option.bind (bif eqB x2.Home a1 then (some (eqB x2.Visited a2)) else (some false)) fun (v3 : Bool) => bif v3 then (dn (some v1)) else (some (.next (WR (v1 + 1))))) else (dn (some (-1)))
def iFindAgreement (a0 : List TRoamingAgreement) (a1 : Int) (a2 : Int) : Option Int :=
  iter (iFindAgreement_L1 a0 a1 a2) FU 0
theorem iFindAgreement_c {a0 : List TRoamingAgreement} {a1 : Int} {a2 : Int} {r : Int} (H : iFindAgreement a0 a1 a2 = some r) : Fn Try.prog 47 [aL (a0.map eTRoamingAgreement), aI a1, aI a2] [.c (.d (.i .i64 r))] := by
  refine fn_in Try.func47 rfl (by kernel_rfl) Try.ntmps47 rfl rfl rfl ?_
  refine wk ?_
  refine awc_iter (fun (q : Int) => ⟨[(1, tI a1), (2, tI a2), (9, .v (.c (.d false (.l (a0.map eTRoamingAgreement))))), (10, tI ((a0.length : Nat) : Int)), (11, tI q)], [], 0⟩) H (weak_of ⟨rfl, rfl, rfl, rfl, rfl, rfl, rfl, rfl, rfl, rfl, trivial⟩ trivial) ?_
  rintro v1 o H
  try dsimp only
  refine wk ?_
  refine awc_cond rfl (fun h => ?_) (fun h => ?_)
  · have H := bt h H
    refine wk ?_
    obtain ⟨x2, hx2, H⟩ := ob H
    refine awr_n rfl (xdT (enc := eTRoamingAgreement) hx2 (fun _ => rfl) rfl rfl rfl) ?_
    refine wk ?_
    obtain ⟨v3, Hj, H⟩ := ob H
    refine awr_join ⟨[(1, tI a1), (2, tI a2), (7, tI v1), (9, .v (.c (.d false (.l (a0.map eTRoamingAgreement))))), (10, tI ((a0.length : Nat) : Int)), (11, tI v1), (25, tB v3)], [], 0⟩ ?_ ?_
    · have H := Hj
      refine wk ?_
      refine g2 rfl rfl rfl (fun h => ?_) (fun h => ?_)
      · have H := bt h H
        refine wk ?_
        cases H
        exact weak_of ⟨rfl, rfl, rfl, rfl, rfl, rfl, rfl, rfl, rfl, rfl, rfl, rfl, rfl, rfl, trivial⟩ trivial
      · have H := bf h H
        refine wk ?_
        cases H
        exact weak_of ⟨rfl, rfl, rfl, rfl, rfl, rfl, rfl, rfl, rfl, rfl, rfl, rfl, rfl, rfl, trivial⟩ trivial
    refine wk ?_
    refine awc_cond rfl (fun h => ?_) (fun h => ?_)
    · have H := bt h H
      refine wk ?_
      obtain ⟨r0, Hd, rfl⟩ := dnE H
      refine iq_r (fun hq => ?_)
      have H := Hd.trans (congrArg some hq)
      refine wk ?_
      cases H
      exact fin_ret (.cons (.tmp rfl) .nil) rfl rfl rfl
    · have H := bf h H
      refine wk ?_
      cases H
      refine iq_n ?_
      exact weak_of ⟨rfl, rfl, rfl, rfl, rfl, rfl, rfl, rfl, rfl, rfl, trivial⟩ trivial
  · have H := bf h H
    refine wk ?_
    obtain ⟨r0, Hd, rfl⟩ := dnE H
    refine iq_e (fun hq => ?_)
    have H := Hd.trans (congrArg some hq)
    refine wk ?_
    cases H
    exact fin_ret (.cons (.tmp rfl) .nil) rfl rfl rfl
def iInRange (a0 : Int) (a1 : Int) (a2 : Int) : Option Bool :=
  Option.bind (bif leB a1 a0 then (some (leB a0 a2)) else (some false)) fun (v1 : Bool) => some v1
theorem iInRange_c {a0 : Int} {a1 : Int} {a2 : Int} {r : Bool} (H : iInRange a0 a1 a2 = some r) : Fn Try.prog 89 [aI a0, aI a1, aI a2] [.c (.d (.b r))] := by
  refine fn_in Try.func89 rfl (by kernel_rfl) Try.ntmps89 rfl rfl rfl ?_
  refine wk ?_
  obtain ⟨v1, Hj, H⟩ := ob H
  refine awr_join ⟨[(6, tB v1)], [], 0⟩ ?_ ?_
  · have H := Hj
    refine wk ?_
    refine g2 rfl rfl rfl (fun h => ?_) (fun h => ?_)
    · have H := bt h H
      refine wk ?_
      cases H
      exact weak_of ⟨rfl, rfl, trivial⟩ trivial
    · have H := bf h H
      refine wk ?_
      cases H
      exact weak_of ⟨rfl, rfl, trivial⟩ trivial
  refine wk ?_
  cases H
  exact fin_ret (.cons (.tmp rfl) .nil) rfl rfl rfl
def iIsValidSubscriberID (a0 : TSubscriberID) : Option Bool :=
  Option.bind (iInRange a0.Network 0 3) fun r1 => Option.bind (bif r1 then (Option.bind (iInRange a0.Number 0 99) fun r3 => some r3) else (some false)) fun (v2 : Bool) => some v2
theorem iIsValidSubscriberID_c {a0 : TSubscriberID} {r : Bool} (H : iIsValidSubscriberID a0 = some r) : Fn Try.prog 105 [.agg (eTSubscriberID a0)] [.c (.d (.b r))] := by
  refine fn_in Try.func105 rfl (by kernel_rfl) Try.ntmps105 rfl rfl rfl ?_
  refine wk ?_
  obtain ⟨r1, hr1, H⟩ := ob H
  refine awr_n rfl (ca rfl rfl rfl (iInRange_c hr1) trivial rfl rfl rfl rfl) ?_
  refine wk ?_
  obtain ⟨v2, Hj, H⟩ := ob H
  refine awr_join ⟨[(2, tB v2)], [], 0⟩ ?_ ?_
  · have H := Hj
    refine wk ?_
    refine g2 rfl rfl rfl (fun h => ?_) (fun h => ?_)
    · have H := bt h H
      refine wk ?_
      obtain ⟨r3, hr3, H⟩ := ob H
      refine awr_ng rfl rfl rfl rfl (ca rfl rfl rfl (iInRange_c hr3) trivial rfl rfl rfl rfl) ?_
      refine wk ?_
      cases H
      exact weak_of ⟨rfl, rfl, trivial⟩ trivial
    · have H := bf h H
      refine wk ?_
      cases H
      exact weak_of ⟨rfl, rfl, trivial⟩ trivial
  refine wk ?_
  cases H
  exact fin_ret (.cons (.tmp rfl) .nil) rfl rfl rfl
def iIsValidAgreement (a0 : TRoamingAgreement) : Option Bool :=
  Option.bind (iInRange a0.Home 0 3) fun r1 => Option.bind (bif r1 then (Option.bind (iInRange a0.Visited 0 3) fun r3 => bif r3 then (bif !eqB a0.Home a0.Visited then (Option.bind (iInRange a0.Price 0 1000) fun r4 => bif r4 then (Option.bind (iInRange a0.Cap 0 1000000000000) fun r5 => some r5) else (some false)) else (some false)) else (some false)) else (some false)) fun (v2 : Bool) => some v2
theorem iIsValidAgreement_c {a0 : TRoamingAgreement} {r : Bool} (H : iIsValidAgreement a0 = some r) : Fn Try.prog 106 [.agg (eTRoamingAgreement a0)] [.c (.d (.b r))] := by
  refine fn_in Try.func106 rfl (by kernel_rfl) Try.ntmps106 rfl rfl rfl ?_
  refine wk ?_
  obtain ⟨r1, hr1, H⟩ := ob H
  refine awr_n rfl (ca rfl rfl rfl (iInRange_c hr1) trivial rfl rfl rfl rfl) ?_
  refine wk ?_
  obtain ⟨v2, Hj, H⟩ := ob H
  refine awr_join ⟨[(2, tB v2)], [], 0⟩ ?_ ?_
  · have H := Hj
    refine wk ?_
    refine g2 rfl rfl rfl (fun h => ?_) (fun h => ?_)
    · have H := bt h H
      refine wk ?_
      obtain ⟨r3, hr3, H⟩ := ob H
      refine awr_ng rfl rfl rfl rfl (ca rfl rfl rfl (iInRange_c hr3) trivial rfl rfl rfl rfl) ?_
      refine wk ?_
      refine g2 rfl rfl rfl (fun h => ?_) (fun h => ?_)
      · have H := bt h H
        refine wk ?_
        refine g2 rfl rfl rfl (fun h => ?_) (fun h => ?_)
        · have H := bt h H
          refine wk ?_
          obtain ⟨r4, hr4, H⟩ := ob H
          refine awr_ng rfl rfl rfl rfl (ca rfl rfl rfl (iInRange_c hr4) trivial rfl rfl rfl rfl) ?_
          refine wk ?_
          refine g2 rfl rfl rfl (fun h => ?_) (fun h => ?_)
          · have H := bt h H
            refine wk ?_
            obtain ⟨r5, hr5, H⟩ := ob H
            refine awr_ng rfl rfl rfl rfl (ca rfl rfl rfl (iInRange_c hr5) trivial rfl rfl rfl rfl) ?_
            refine wk ?_
            cases H
            exact weak_of ⟨rfl, rfl, trivial⟩ trivial
          · have H := bf h H
            refine wk ?_
            cases H
            exact weak_of ⟨rfl, rfl, trivial⟩ trivial
        · have H := bf h H
          refine wk ?_
          cases H
          exact weak_of ⟨rfl, rfl, trivial⟩ trivial
      · have H := bf h H
        refine wk ?_
        cases H
        exact weak_of ⟨rfl, rfl, trivial⟩ trivial
    · have H := bf h H
      refine wk ?_
      cases H
      exact weak_of ⟨rfl, rfl, trivial⟩ trivial
  refine wk ?_
  cases H
  exact fin_ret (.cons (.tmp rfl) .nil) rfl rfl rfl
def iCheckRoaming (a0 : TSubscription) (a1 : List TRoamingAgreement) (a2 : TSubscriberID) (a3 : Int) : Option Int :=
  Option.bind (iInRange a3 0 3) fun r1 => Option.bind (bif !r1 then (some true) else (Option.bind (iIsValidSubscriberID a2) fun r3 => some (!r3))) fun (v2 : Bool) => bif v2 then (some 1) else (bif eqB a3 a2.Network then (some 0) else (Option.bind (iRoamingAllowed a0 a2.Network a3) fun r4 => bif !r4 then (some 2) else (Option.bind (iFindAgreement a1 a2.Network a3) fun r5 => Option.bind (bif ltB r5 0 then (some true) else (Option.bind (ix a1 r5) fun x7 => Option.bind (iIsValidAgreement x7) fun r8 => some (!r8))) fun (v6 : Bool) => bif v6 then (some 3) else (some 0))))
theorem iCheckRoaming_c {a0 : TSubscription} {a1 : List TRoamingAgreement} {a2 : TSubscriberID} {a3 : Int} {r : Int} (H : iCheckRoaming a0 a1 a2 a3 = some r) : Fn Try.prog 42 [.agg (eTSubscription a0), aL (a1.map eTRoamingAgreement), .agg (eTSubscriberID a2), aI a3] [.c (.d (.i .i64 r))] := by
  refine fn_in Try.func42 rfl (by kernel_rfl) Try.ntmps42 rfl rfl rfl ?_
  refine wk ?_
  obtain ⟨r1, hr1, H⟩ := ob H
  refine awr_n rfl (ca rfl rfl rfl (iInRange_c hr1) trivial rfl rfl rfl rfl) ?_
  refine wk ?_
  obtain ⟨v2, Hj, H⟩ := ob H
  refine awr_join ⟨[(1, .v (.c (.d false (.l (a1.map eTRoamingAgreement))))), (3, tI a3), (4, .v (.c (.p 0 0))), (6, .v (.c (.p 1 0))), (17, tB v2)], [(0, .var 68 [.d false (.i .i64 a0.RateLimit), .d false (.i .i64 a0.BestClass), .d false (.i .i64 a0.GrantSize), .d false (.l (a0.RoamingNetworks.map eI))]), (1, .var 60 [.d false (.i .i64 a2.Network), .d false (.i .i64 a2.Number)])], 2⟩ ?_ ?_
  · have H := Hj
    refine wk ?_
    refine g2 rfl rfl rfl (fun h => ?_) (fun h => ?_)
    · have H := bt h H
      refine wk ?_
      cases H
      exact weak_of ⟨rfl, rfl, rfl, rfl, rfl, rfl, rfl, rfl, rfl, rfl, trivial⟩ ⟨rfl, ⟨rfl, rfl⟩, rfl, ⟨rfl, rfl⟩, trivial⟩
    · have H := bf h H
      refine wk ?_
      obtain ⟨r3, hr3, H⟩ := ob H
      refine awr_ng rfl rfl rfl rfl (ca rfl rfl rfl (iIsValidSubscriberID_c hr3) trivial rfl rfl rfl rfl) ?_
      refine wk ?_
      cases H
      exact weak_of ⟨rfl, rfl, rfl, rfl, rfl, rfl, rfl, rfl, rfl, rfl, trivial⟩ ⟨rfl, ⟨rfl, rfl⟩, rfl, ⟨rfl, rfl⟩, trivial⟩
  refine wk ?_
  refine awc_cond rfl (fun h => ?_) (fun h => ?_)
  · have H := bt h H
    refine wk ?_
    cases H
    exact fin_ret (.cons (.tmp rfl) .nil) rfl rfl rfl
  · have H := bf h H
    refine wk ?_
    refine awc_cond rfl (fun h => ?_) (fun h => ?_)
    · have H := bt h H
      refine wk ?_
      cases H
      exact fin_ret (.cons (.tmp rfl) .nil) rfl rfl rfl
    · have H := bf h H
      refine wk ?_
      obtain ⟨r4, hr4, H⟩ := ob H
      refine awr_n rfl (ca rfl rfl rfl (iRoamingAllowed_c hr4) trivial rfl rfl rfl rfl) ?_
      refine wk ?_
      refine awc_cond rfl (fun h => ?_) (fun h => ?_)
      · have H := bt h H
        refine wk ?_
        cases H
        exact fin_ret (.cons (.tmp rfl) .nil) rfl rfl rfl
      · have H := bf h H
        refine wk ?_
        obtain ⟨r5, hr5, H⟩ := ob H
        refine awr_n rfl (ca rfl rfl rfl (iFindAgreement_c hr5) trivial rfl rfl rfl rfl) ?_
        refine wk ?_
        obtain ⟨v6, Hj, H⟩ := ob H
        refine awr_join ⟨[(42, tB v6)], [], 0⟩ ?_ ?_
        · have H := Hj
          refine wk ?_
          refine g2 rfl rfl rfl (fun h => ?_) (fun h => ?_)
          · have H := bt h H
            refine wk ?_
            cases H
            exact weak_of ⟨rfl, rfl, trivial⟩ trivial
          · have H := bf h H
            refine wk ?_
            obtain ⟨x7, hx7, H⟩ := ob H
            refine awr_ng rfl rfl rfl rfl (xdT (enc := eTRoamingAgreement) hx7 (fun _ => rfl) rfl rfl rfl) ?_
            refine wk ?_
            obtain ⟨r8, hr8, H⟩ := ob H
            refine awr_ng rfl rfl rfl rfl (ca rfl rfl rfl (iIsValidAgreement_c hr8) trivial rfl rfl rfl rfl) ?_
            refine wk ?_
            cases H
            exact weak_of ⟨rfl, rfl, trivial⟩ trivial
        refine wk ?_
        refine awc_cond rfl (fun h => ?_) (fun h => ?_)
        · have H := bt h H
          refine wk ?_
          cases H
          exact fin_ret (.cons (.tmp rfl) .nil) rfl rfl rfl
        · have H := bf h H
          refine wk ?_
          cases H
          exact fin_ret (.cons (.tmp rfl) .nil) rfl rfl rfl
def iIsValidRecord (a0 : TUsageRecord) : Option Bool :=
  Option.bind (iInRange a0.Network 0 3) fun r1 => Option.bind (bif r1 then (bif leB 0 a0.SessionID then (Option.bind (iInRange a0.Seq 1 100000) fun r3 => bif r3 then (Option.bind (iInRange a0.Bytes 0 100000) fun r4 => some r4) else (some false)) else (some false)) else (some false)) fun (v2 : Bool) => some v2
theorem iIsValidRecord_c {a0 : TUsageRecord} {r : Bool} (H : iIsValidRecord a0 = some r) : Fn Try.prog 134 [.agg (eTUsageRecord a0)] [.c (.d (.b r))] := by
  refine fn_in Try.func134 rfl (by kernel_rfl) Try.ntmps134 rfl rfl rfl ?_
  refine wk ?_
  obtain ⟨r1, hr1, H⟩ := ob H
  refine awr_n rfl (ca rfl rfl rfl (iInRange_c hr1) trivial rfl rfl rfl rfl) ?_
  refine wk ?_
  obtain ⟨v2, Hj, H⟩ := ob H
  refine awr_join ⟨[(2, tB v2)], [], 0⟩ ?_ ?_
  · have H := Hj
    refine wk ?_
    refine g2 rfl rfl rfl (fun h => ?_) (fun h => ?_)
    · have H := bt h H
      refine wk ?_
      refine g2 rfl rfl rfl (fun h => ?_) (fun h => ?_)
      · have H := bt h H
        refine wk ?_
        obtain ⟨r3, hr3, H⟩ := ob H
        refine awr_ng rfl rfl rfl rfl (ca rfl rfl rfl (iInRange_c hr3) trivial rfl rfl rfl rfl) ?_
        refine wk ?_
        refine g2 rfl rfl rfl (fun h => ?_) (fun h => ?_)
        · have H := bt h H
          refine wk ?_
          obtain ⟨r4, hr4, H⟩ := ob H
          refine awr_ng rfl rfl rfl rfl (ca rfl rfl rfl (iInRange_c hr4) trivial rfl rfl rfl rfl) ?_
          refine wk ?_
          cases H
          exact weak_of ⟨rfl, rfl, trivial⟩ trivial
        · have H := bf h H
          refine wk ?_
          cases H
          exact weak_of ⟨rfl, rfl, trivial⟩ trivial
      · have H := bf h H
        refine wk ?_
        cases H
        exact weak_of ⟨rfl, rfl, trivial⟩ trivial
    · have H := bf h H
      refine wk ?_
      cases H
      exact weak_of ⟨rfl, rfl, trivial⟩ trivial
  refine wk ?_
  cases H
  exact fin_ret (.cons (.tmp rfl) .nil) rfl rfl rfl
def isameRecord (a0 : TUsageRecord) (a1 : TUsageRecord) : Option Bool :=
  Option.bind (bif eqB a0.Network a1.Network then (bif eqB a0.SessionID a1.SessionID then (some (eqB a0.Seq a1.Seq)) else (some false)) else (some false)) fun (v1 : Bool) => some v1
theorem isameRecord_c {a0 : TUsageRecord} {a1 : TUsageRecord} {r : Bool} (H : isameRecord a0 a1 = some r) : Fn Try.prog 158 [.agg (eTUsageRecord a0), .agg (eTUsageRecord a1)] [.c (.d (.b r))] := by
  refine fn_in Try.func158 rfl (by kernel_rfl) Try.ntmps158 rfl rfl rfl ?_
  refine wk ?_
  obtain ⟨v1, Hj, H⟩ := ob H
  refine awr_join ⟨[(4, tB v1)], [], 0⟩ ?_ ?_
  · have H := Hj
    refine wk ?_
    refine g2 rfl rfl rfl (fun h => ?_) (fun h => ?_)
    · have H := bt h H
      refine wk ?_
      refine g2 rfl rfl rfl (fun h => ?_) (fun h => ?_)
      · have H := bt h H
        refine wk ?_
        cases H
        exact weak_of ⟨rfl, rfl, trivial⟩ trivial
      · have H := bf h H
        refine wk ?_
        cases H
        exact weak_of ⟨rfl, rfl, trivial⟩ trivial
    · have H := bf h H
      refine wk ?_
      cases H
      exact weak_of ⟨rfl, rfl, trivial⟩ trivial
  refine wk ?_
  cases H
  exact fin_ret (.cons (.tmp rfl) .nil) rfl rfl rfl
def iFindRecord_L1 (a0 : List TUsageRecord) (a1 : TUsageRecord) : Int → Option (Step (Int) (Int))
  | v1 => bif ltB v1 ((a0.length : Nat) : Int) then (Option.bind (ix a0 v1) fun x2 => Option.bind (isameRecord x2 a1) fun r3 => bif r3 then (dn (some v1)) else (some (.next (WR (v1 + 1))))) else (dn (some (-1)))
def iFindRecord (a0 : List TUsageRecord) (a1 : TUsageRecord) : Option Int :=
  iter (iFindRecord_L1 a0 a1) FU 0
theorem iFindRecord_c {a0 : List TUsageRecord} {a1 : TUsageRecord} {r : Int} (H : iFindRecord a0 a1 = some r) : Fn Try.prog 135 [aL (a0.map eTUsageRecord), .agg (eTUsageRecord a1)] [.c (.d (.i .i64 r))] := by
  refine fn_in Try.func135 rfl (by kernel_rfl) Try.ntmps135 rfl rfl rfl ?_
  refine wk ?_
  refine awc_iter (fun (q : Int) => ⟨[(3, .v (.c (.p 0 0))), (7, .v (.c (.d false (.l (a0.map eTUsageRecord))))), (8, tI ((a0.length : Nat) : Int)), (9, tI q)], [(0, .var 129 [.d false (.i .i64 a1.Network), .d false (.i .i64 a1.SessionID), .d false (.i .i64 a1.Seq), .d false (.i .i64 a1.Bytes)])], 1⟩) H (weak_of ⟨rfl, rfl, rfl, rfl, rfl, rfl, rfl, rfl, trivial⟩ ⟨rfl, ⟨rfl, rfl⟩, trivial⟩) ?_
  rintro v1 o H
  try dsimp only
  refine wk ?_
  refine awc_cond rfl (fun h => ?_) (fun h => ?_)
  · have H := bt h H
    refine wk ?_
    obtain ⟨x2, hx2, H⟩ := ob H
    refine awr_n rfl (xdT (enc := eTUsageRecord) hx2 (fun _ => rfl) rfl rfl rfl) ?_
    refine wk ?_
    obtain ⟨r3, hr3, H⟩ := ob H
    refine awr_n rfl (ca rfl rfl rfl (isameRecord_c hr3) trivial rfl rfl rfl rfl) ?_
    refine wk ?_
    refine awc_cond rfl (fun h => ?_) (fun h => ?_)
    · have H := bt h H
      refine wk ?_
      obtain ⟨r0, Hd, rfl⟩ := dnE H
      refine iq_r (fun hq => ?_)
      have H := Hd.trans (congrArg some hq)
      refine wk ?_
      cases H
      exact fin_ret (.cons (.tmp rfl) .nil) rfl rfl rfl
    · have H := bf h H
      refine wk ?_
      cases H
      refine iq_n ?_
      exact weak_of ⟨rfl, rfl, rfl, rfl, rfl, rfl, rfl, rfl, trivial⟩ ⟨rfl, ⟨rfl, rfl⟩, trivial⟩
  · have H := bf h H
    refine wk ?_
    obtain ⟨r0, Hd, rfl⟩ := dnE H
    refine iq_e (fun hq => ?_)
    have H := Hd.trans (congrArg some hq)
    refine wk ?_
    cases H
    exact fin_ret (.cons (.tmp rfl) .nil) rfl rfl rfl
def iAreValidRecords_L1 (a0 : List TUsageRecord) : Int → Option (Step (Int) (Bool))
  | v1 => bif ltB v1 ((a0.length : Nat) : Int) then (Option.bind (ix a0 v1) fun x2 => Option.bind (iIsValidRecord x2) fun r3 => Option.bind (bif !r3 then (some true) else (Option.bind (iFindRecord a0 x2) fun r5 => some (!eqB r5 v1))) fun (v4 : Bool) => bif v4 then (dn (some false)) else (some (.next (WR (v1 + 1))))) else (dn (some true))
def iAreValidRecords (a0 : List TUsageRecord) : Option Bool :=
  bif ltB 24 ((a0.length : Nat) : Int) then (some false) else (iter (iAreValidRecords_L1 a0) FU 0)
theorem iAreValidRecords_c {a0 : List TUsageRecord} {r : Bool} (H : iAreValidRecords a0 = some r) : Fn Try.prog 90 [aL (a0.map eTUsageRecord)] [.c (.d (.b r))] := by
  refine fn_in Try.func90 rfl (by kernel_rfl) Try.ntmps90 rfl rfl rfl ?_
  refine wk ?_
  refine awc_cond rfl (fun h => ?_) (fun h => ?_)
  · have H := bt h H
    refine wk ?_
    cases H
    exact fin_ret (.cons (.tmp rfl) .nil) rfl rfl rfl
  · have H := bf h H
    refine wk ?_
    refine awc_iter (fun (q : Int) => ⟨[(0, .v (.c (.d false (.l (a0.map eTUsageRecord))))), (8, .v (.c (.d false (.l (a0.map eTUsageRecord))))), (9, tI ((a0.length : Nat) : Int)), (10, tI q)], [], 0⟩) H (weak_of ⟨rfl, rfl, rfl, rfl, rfl, rfl, rfl, rfl, trivial⟩ trivial) ?_
    rintro v1 o H
    try dsimp only
    refine wk ?_
    refine awc_cond rfl (fun h => ?_) (fun h => ?_)
    · have H := bt h H
      refine wk ?_
      obtain ⟨x2, hx2, H⟩ := ob H
      refine awr_n rfl (xdT (enc := eTUsageRecord) hx2 (fun _ => rfl) rfl rfl rfl) ?_
      refine wk ?_
      obtain ⟨r3, hr3, H⟩ := ob H
      refine awr_n rfl (ca rfl rfl rfl (iIsValidRecord_c hr3) trivial rfl rfl rfl rfl) ?_
      refine wk ?_
      obtain ⟨v4, Hj, H⟩ := ob H
      refine awr_join ⟨[(0, .v (.c (.d false (.l (a0.map eTUsageRecord))))), (8, .v (.c (.d false (.l (a0.map eTUsageRecord))))), (9, tI ((a0.length : Nat) : Int)), (10, tI v1), (24, tB v4)], [], 0⟩ ?_ ?_
      · have H := Hj
        refine wk ?_
        refine g2 rfl rfl rfl (fun h => ?_) (fun h => ?_)
        · have H := bt h H
          refine wk ?_
          cases H
          exact weak_of ⟨rfl, rfl, rfl, rfl, rfl, rfl, rfl, rfl, rfl, rfl, trivial⟩ trivial
        · have H := bf h H
          refine wk ?_
          obtain ⟨r5, hr5, H⟩ := ob H
          refine awr_ng rfl rfl rfl rfl (ca rfl rfl rfl (iFindRecord_c hr5) trivial rfl rfl rfl rfl) ?_
          refine wk ?_
          cases H
          exact weak_of ⟨rfl, rfl, rfl, rfl, rfl, rfl, rfl, rfl, rfl, rfl, trivial⟩ trivial
      refine wk ?_
      refine awc_cond rfl (fun h => ?_) (fun h => ?_)
      · have H := bt h H
        refine wk ?_
        obtain ⟨r0, Hd, rfl⟩ := dnE H
        refine iq_r (fun hq => ?_)
        have H := Hd.trans (congrArg some hq)
        refine wk ?_
        cases H
        exact fin_ret (.cons (.tmp rfl) .nil) rfl rfl rfl
      · have H := bf h H
        refine wk ?_
        cases H
        refine iq_n ?_
        exact weak_of ⟨rfl, rfl, rfl, rfl, rfl, rfl, rfl, rfl, trivial⟩ trivial
    · have H := bf h H
      refine wk ?_
      obtain ⟨r0, Hd, rfl⟩ := dnE H
      refine iq_e (fun hq => ?_)
      have H := Hd.trans (congrArg some hq)
      refine wk ?_
      cases H
      exact fin_ret (.cons (.tmp rfl) .nil) rfl rfl rfl
def iIsValidBook_L1 (a0 : TOperatorBook) : Int → Option (Step (Int) (Bool))
  | v5 => bif ltB v5 ((a0.Claims.length : Nat) : Int) then (Option.bind (ix a0.Claims v5) fun x6 => bif !eqB x6.Network a0.Network then (dn (some false)) else (some (.next (WR (v5 + 1))))) else (dn (some true))
def iIsValidBook (a0 : TOperatorBook) : Option Bool :=
  Option.bind (iInRange a0.Network 0 3) fun r1 => Option.bind (bif !r1 then (some true) else (Option.bind (iAreValidRecords a0.Own) fun r3 => bif !r3 then (some true) else (Option.bind (iAreValidRecords a0.Claims) fun r4 => some (!r4)))) fun (v2 : Bool) => bif v2 then (some false) else (iter (iIsValidBook_L1 a0) FU 0)
theorem iIsValidBook_c {a0 : TOperatorBook} {r : Bool} (H : iIsValidBook a0 = some r) : Fn Try.prog 30 [.agg (eTOperatorBook a0)] [.c (.d (.b r))] := by
  refine fn_in Try.func30 rfl (by kernel_rfl) Try.ntmps30 rfl rfl rfl ?_
  refine wk ?_
  obtain ⟨r1, hr1, H⟩ := ob H
  refine awr_n rfl (ca rfl rfl rfl (iInRange_c hr1) trivial rfl rfl rfl rfl) ?_
  refine wk ?_
  obtain ⟨v2, Hj, H⟩ := ob H
  refine awr_join ⟨[(1, .v (.c (.p 0 0))), (20, tB v2)], [(0, .var 44 [.d false (.i .i64 a0.Network), .d false (.l (a0.Own.map eTUsageRecord)), .d false (.l (a0.Claims.map eTUsageRecord))])], 1⟩ ?_ ?_
  · have H := Hj
    refine wk ?_
    refine g2 rfl rfl rfl (fun h => ?_) (fun h => ?_)
    · have H := bt h H
      refine wk ?_
      cases H
      exact weak_of ⟨rfl, rfl, rfl, rfl, trivial⟩ ⟨rfl, ⟨rfl, rfl⟩, trivial⟩
    · have H := bf h H
      refine wk ?_
      obtain ⟨r3, hr3, H⟩ := ob H
      refine awr_ng rfl rfl rfl rfl (ca rfl rfl rfl (iAreValidRecords_c hr3) trivial rfl rfl rfl rfl) ?_
      refine wk ?_
      refine g2 rfl rfl rfl (fun h => ?_) (fun h => ?_)
      · have H := bt h H
        refine wk ?_
        cases H
        exact weak_of ⟨rfl, rfl, rfl, rfl, trivial⟩ ⟨rfl, ⟨rfl, rfl⟩, trivial⟩
      · have H := bf h H
        refine wk ?_
        obtain ⟨r4, hr4, H⟩ := ob H
        refine awr_ng rfl rfl rfl rfl (ca rfl rfl rfl (iAreValidRecords_c hr4) trivial rfl rfl rfl rfl) ?_
        refine wk ?_
        cases H
        exact weak_of ⟨rfl, rfl, rfl, rfl, trivial⟩ ⟨rfl, ⟨rfl, rfl⟩, trivial⟩
  refine wk ?_
  refine awc_cond rfl (fun h => ?_) (fun h => ?_)
  · have H := bt h H
    refine wk ?_
    cases H
    exact fin_ret (.cons (.tmp rfl) .nil) rfl rfl rfl
  · have H := bf h H
    refine wk ?_
    refine awc_iter (fun (q : Int) => ⟨[(1, .v (.c (.p 0 0))), (22, .v (.c (.d false (.l (a0.Claims.map eTUsageRecord))))), (23, tI ((a0.Claims.length : Nat) : Int)), (24, tI q)], [(0, .var 44 [.d false (.i .i64 a0.Network), .d false (.l (a0.Own.map eTUsageRecord)), .d false (.l (a0.Claims.map eTUsageRecord))])], 1⟩) H (weak_of ⟨rfl, rfl, rfl, rfl, rfl, rfl, rfl, rfl, trivial⟩ ⟨rfl, ⟨rfl, rfl⟩, trivial⟩) ?_
    rintro v5 o H
    try dsimp only
    refine wk ?_
    refine awc_cond rfl (fun h => ?_) (fun h => ?_)
    · have H := bt h H
      refine wk ?_
      obtain ⟨x6, hx6, H⟩ := ob H
      refine awr_n rfl (xdT (enc := eTUsageRecord) hx6 (fun _ => rfl) rfl rfl rfl) ?_
      refine wk ?_
      refine awc_cond rfl (fun h => ?_) (fun h => ?_)
      · have H := bt h H
        refine wk ?_
        obtain ⟨r0, Hd, rfl⟩ := dnE H
        refine iq_r (fun hq => ?_)
        have H := Hd.trans (congrArg some hq)
        refine wk ?_
        cases H
        exact fin_ret (.cons (.tmp rfl) .nil) rfl rfl rfl
      · have H := bf h H
        refine wk ?_
        cases H
        refine iq_n ?_
        exact weak_of ⟨rfl, rfl, rfl, rfl, rfl, rfl, rfl, rfl, trivial⟩ ⟨rfl, ⟨rfl, rfl⟩, trivial⟩
    · have H := bf h H
      refine wk ?_
      obtain ⟨r0, Hd, rfl⟩ := dnE H
      refine iq_e (fun hq => ?_)
      have H := Hd.trans (congrArg some hq)
      refine wk ?_
      cases H
      exact fin_ret (.cons (.tmp rfl) .nil) rfl rfl rfl
end Go.AM
