/-
  Own text: a part of the abstract machine for this seat (Kal). No statement is proved here.
-/
import Derived.Test.YtmfccbgmdnhkfaaKas
import Derived.Test.YtmfccbgmdnhkfaaKam
set_option linter.unusedVariables false
namespace Go.AM
open Go.Proofs
attribute [local irreducible] AWN NS AWO AWR AWC DR Weak iterQ
set_option maxRecDepth 100000
set_option maxHeartbeats 4000000
def lFnVisitors_L2 (r2 : List TRegistration) (v3 : Int) (v4 : Int) (v5 : Int) (r6 : List TSubscriberID) : Int → Option (Step (Int) (Step (Int × Int × Int) (Bool)))
  | v7 => bif ltB v7 ((r6.length : Nat) : Int) then (Option.bind (ix r6 v7) fun x8 => Option.bind (sFindRegistration r2 x8) fun r9 => Option.bind (ix r6 v7) fun x10 => Option.bind (bif !eqB x10.Network v5 then (some true) else (bif ltB r9 0 then (some true) else (Option.bind (ix r2 r9) fun x12 => some (eqB x12.Network v5)))) fun (v11 : Bool) => bif v11 then (dn (dn (some false))) else (some (.next (WR (v7 + 1))))) else (dn (Option.bind (iTempIDsIn r2 v5) fun r13 => some (.next (WR (v3 + ((r6.length : Nat) : Int)), WR (v4 + ((r13.length : Nat) : Int)), WR (v5 + 1)))))
def lFnVisitors_L3 (r2 : List TRegistration) : (Int × Int) → Option (Step (Int × Int) (Int))
  | (v14, v15) => bif ltB v15 ((r2.length : Nat) : Int) then (Option.bind (ix r2 v15) fun x20 => Option.bind (ix r2 v15) fun x21 => Option.bind (bif eqB x20.Network x21.ID.Network then (some (WR (v14 + 1))) else (some v14)) fun (v22 : Int) => some (.next (v22, WR (v15 + 1)))) else (some (.done v14))
def lFnVisitors_L1 (r2 : List TRegistration) : (Int × Int × Int) → Option (Step (Int × Int × Int) (Bool))
  | (v3, v4, v5) => bif ltB v5 4 then (Option.bind (iVisitorsOf r2 v5) fun r6 => iter (lFnVisitors_L2 r2 v3 v4 v5 r6) FU 0) else (dn (Option.bind (iter (lFnVisitors_L3 r2) FU (0, 0)) fun (v19 : Int) => Option.bind (bif eqB (WR (v3 + v19)) ((r2.length : Nat) : Int) then (bif eqB v4 ((r2.length : Nat) : Int) then (Option.bind (iRoamingCodeName 0) fun r24 => bif strB r24 (⟨#[111, 107]⟩ : ByteArray) then (Option.bind (iRoamingCodeName (-1)) fun r25 => some (strB r25 (⟨#[]⟩ : ByteArray))) else (some false)) else (some false)) else (some false)) fun (v23 : Bool) => some v23))
def lFnVisitors (a0 : List Int) : Option Bool :=
  Option.bind (lbig a0) fun r1 => bif r1 then (some true) else (Option.bind (sDrawReg a0) fun r2 => iter (lFnVisitors_L1 r2) FU (0, 0, 0))
theorem lFnVisitors_c {a0 : List Int} {r : Bool} (H : lFnVisitors a0 = some r) : Fn Try.prog 3 [aL (a0.map eU8)] [.c (.d (.b r))] := by
  refine fn_in Try.func3 rfl (by kernel_rfl) Try.ntmps3 rfl rfl rfl ?_
  refine wkd ?_
  obtain ⟨r1, hr1, H⟩ := ob H
  refine awr_n rfl (ca rfl rfl rfl (lbig_c hr1) trivial rfl rfl rfl rfl) ?_
  refine wkd ?_
  refine awc_cond rfl (fun h => ?_) (fun h => ?_)
  · have H := bt h H
    refine wkd ?_
    cases H
    exact fin_ret (.cons (.tmp rfl) .nil) rfl rfl rfl
  · have H := bf h H
    refine wkd ?_
    obtain ⟨r2, hr2, H⟩ := ob H
    refine awr_n rfl (ca rfl rfl rfl (sDrawReg_c hr2) trivial rfl rfl rfl rfl) ?_
    refine wkd ?_
    refine awc_iter (fun (q : Int × Int × Int) => ⟨[(3, .v (.c (.w 0 r2.length))), (4, tI q.1), (5, tI q.2.1), (6, tI q.2.2)], [(0, .row 34 6 (r2.map eTRegistration) true true)], 1⟩) H (weak_of ⟨wn rfl (by first | rfl | simp), rfl, rfl, rfl, rfl, rfl, rfl, rfl, trivial⟩ ⟨rfl, ⟨rfl, rfl⟩, trivial⟩) ?_
    rintro ⟨v3, v4, v5⟩ o H
    try dsimp only
    refine wkd ?_
    refine awc_cond rfl (fun h => ?_) (fun h => ?_)
    · have H := bt h H
      refine wkd ?_
      obtain ⟨r6, hr6, H⟩ := ob H
      refine awr_n rfl (ca rfl rfl rfl (iVisitorsOf_c hr6) ⟨by first | rfl | exact lm _, trivial⟩ rfl rfl rfl rfl) ?_
      refine wkd ?_
      refine awc_iter (fun (q : Int) => ⟨[(3, .v (.c (.w 0 r2.length))), (4, tI v3), (5, tI v4), (6, tI v5), (7, .v (.c (.w 1 r6.length))), (8, tI q)], [(0, .row 34 6 (r2.map eTRegistration) true true), (1, .row 30 2 (r6.map eTSubscriberID) true true)], 2⟩) H (weak_of ⟨wn rfl (by first | rfl | simp), rfl, rfl, rfl, rfl, rfl, rfl, rfl, wn rfl (by first | rfl | simp), rfl, rfl, rfl, trivial⟩ ⟨rfl, ⟨rfl, rfl⟩, rfl, ⟨rfl, rfl⟩, trivial⟩) ?_
      rintro v7 o H
      try dsimp only
      refine wkd ?_
      refine awc_cond rfl (fun h => ?_) (fun h => ?_)
      · have H := bt h H
        refine wkd ?_
        obtain ⟨x8, hx8, H⟩ := ob H
        refine awr_n rfl (xwT hx8 (by first | rfl | simp) rfl rfl rfl) ?_
        refine wkd ?_
        refine awr_n rfl (oea rfl rfl rfl (ix_map eTSubscriberID hx8) rfl) ?_
        refine wkd ?_
        obtain ⟨r9, hr9, H⟩ := ob H
        refine awr_n rfl (ca rfl rfl rfl (sFindRegistration_c hr9) ⟨by first | rfl | exact lm _, trivial⟩ rfl rfl rfl rfl) ?_
        refine wkd ?_
        obtain ⟨x10, hx10, H⟩ := ob H
        refine awr_n rfl (xwT hx10 (by first | rfl | simp) rfl rfl rfl) ?_
        refine wkd ?_
        refine awr_n rfl (oe rfl rfl rfl (ix_map eTSubscriberID hx10) rfl) ?_
        refine wkd ?_
        obtain ⟨v11, Hj, H⟩ := ob H
        refine awr_join ⟨[(3, .v (.c (.w 0 r2.length))), (4, tI v3), (5, tI v4), (6, tI v5), (7, .v (.c (.w 1 r6.length))), (8, tI v7), (54, tB v11)], [(0, .row 34 6 (r2.map eTRegistration) true true), (1, .row 30 2 (r6.map eTSubscriberID) true true)], 2⟩ ?_ ?_
        · have H := Hj
          refine wkd ?_
          refine g2 rfl rfl rfl (fun h => ?_) (fun h => ?_)
          · have H := bt h H
            refine wkd ?_
            cases H
            exact weak_of ⟨wn rfl (by first | rfl | simp), rfl, rfl, rfl, rfl, rfl, rfl, rfl, wn rfl (by first | rfl | simp), rfl, rfl, rfl, rfl, rfl, trivial⟩ ⟨rfl, ⟨rfl, rfl⟩, rfl, ⟨rfl, rfl⟩, trivial⟩
          · have H := bf h H
            refine wkd ?_
            refine g2 rfl rfl rfl (fun h => ?_) (fun h => ?_)
            · have H := bt h H
              refine wkd ?_
              cases H
              exact weak_of ⟨wn rfl (by first | rfl | simp), rfl, rfl, rfl, rfl, rfl, rfl, rfl, wn rfl (by first | rfl | simp), rfl, rfl, rfl, rfl, rfl, trivial⟩ ⟨rfl, ⟨rfl, rfl⟩, rfl, ⟨rfl, rfl⟩, trivial⟩
            · have H := bf h H
              refine wkd ?_
              obtain ⟨x12, hx12, H⟩ := ob H
              refine awr_ng rfl rfl rfl rfl (xwT hx12 (by first | rfl | simp) rfl rfl rfl) ?_
              refine wkd ?_
              refine awr_ng rfl rfl rfl rfl (oe rfl rfl rfl (ix_map eTRegistration hx12) rfl) ?_
              refine wkd ?_
              cases H
              exact weak_of ⟨wn rfl (by first | rfl | simp), rfl, rfl, rfl, rfl, rfl, rfl, rfl, wn rfl (by first | rfl | simp), rfl, rfl, rfl, rfl, rfl, trivial⟩ ⟨rfl, ⟨rfl, rfl⟩, rfl, ⟨rfl, rfl⟩, trivial⟩
        refine wkd ?_
        refine awc_cond rfl (fun h => ?_) (fun h => ?_)
        · have H := bt h H
          refine wkd ?_
          obtain ⟨r0, Hd, rfl⟩ := dnE H
          refine iq_r (fun hq => ?_)
          have H := Hd.trans (congrArg some hq)
          refine wkd ?_
          obtain ⟨r0, Hd, rfl⟩ := dnE H
          refine iq_r (fun hq => ?_)
          have H := Hd.trans (congrArg some hq)
          refine wkd ?_
          cases H
          exact fin_ret (.cons (.tmp rfl) .nil) rfl rfl rfl
        · have H := bf h H
          refine wkd ?_
          cases H
          refine iq_n ?_
          exact weak_of ⟨wn rfl (by first | rfl | simp), rfl, rfl, rfl, rfl, rfl, rfl, rfl, wn rfl (by first | rfl | simp), rfl, rfl, rfl, trivial⟩ ⟨rfl, ⟨rfl, rfl⟩, rfl, ⟨rfl, rfl⟩, trivial⟩
      · have H := bf h H
        refine wkd ?_
        obtain ⟨r0, Hd, rfl⟩ := dnE H
        refine iq_e (fun hq => ?_)
        have H := Hd.trans (congrArg some hq)
        refine wkd ?_
        obtain ⟨r13, hr13, H⟩ := ob H
        refine awr_n rfl (ca rfl rfl rfl (iTempIDsIn_c hr13) ⟨by first | rfl | exact lm _, trivial⟩ rfl rfl rfl rfl) ?_
        refine wkd ?_
        cases H
        refine iq_n ?_
        exact weak_of ⟨wn rfl (by first | rfl | simp), rfl, rfl, rfl, rfl, rfl, rfl, rfl, trivial⟩ ⟨rfl, ⟨rfl, rfl⟩, trivial⟩
    · have H := bf h H
      refine wkd ?_
      obtain ⟨r0, Hd, rfl⟩ := dnE H
      refine iq_e (fun hq => ?_)
      have H := Hd.trans (congrArg some hq)
      refine wkd ?_
      obtain ⟨v19, Hj, H⟩ := ob H
      refine awc_jblk ⟨[(3, .v (.c (.w 0 r2.length))), (4, tI v3), (5, tI v4), (10, tI v19)], [(0, .row 34 6 (r2.map eTRegistration) true true)], 1⟩ ?_ ?_
      · refine wkd ?_
        refine awc_iter (fun (q : Int × Int) => ⟨[(3, .v (.c (.w 0 r2.length))), (4, tI v3), (5, tI v4), (10, tI q.1), (11, tI q.2)], [(0, .row 34 6 (r2.map eTRegistration) true true)], 1⟩) Hj (weak_of ⟨wn rfl (by first | rfl | simp), rfl, rfl, rfl, rfl, rfl, rfl, rfl, rfl, rfl, trivial⟩ ⟨rfl, ⟨rfl, rfl⟩, trivial⟩) ?_
        rintro ⟨v14, v15⟩ o H
        try dsimp only
        refine wkd ?_
        refine awc_cond rfl (fun h => ?_) (fun h => ?_)
        · have H := bt h H
          refine wkd ?_
          obtain ⟨x20, hx20, H⟩ := ob H
          refine dr_n rfl (xwT hx20 (by first | rfl | simp) rfl rfl rfl) ?_
          refine wkd ?_
          refine dr_n rfl (oe rfl rfl rfl (ix_map eTRegistration hx20) rfl) ?_
          refine wkd ?_
          obtain ⟨x21, hx21, H⟩ := ob H
          refine dr_n rfl (xwT hx21 (by first | rfl | simp) rfl rfl rfl) ?_
          refine wkd ?_
          refine dr_n rfl (oe rfl rfl rfl (ix_map eTRegistration hx21) rfl) ?_
          refine wkd ?_
          obtain ⟨v22, Hj, H⟩ := ob H
          refine awc_join ⟨[(3, .v (.c (.w 0 r2.length))), (4, tI v3), (5, tI v4), (10, tI v22), (11, tI v15)], [(0, .row 34 6 (r2.map eTRegistration) true true)], 1⟩ ?_ ?_
          · have H := Hj
            refine wkd ?_
            refine awc_cond rfl (fun h => ?_) (fun h => ?_)
            · have H := bt h H
              refine wkd ?_
              cases H
              exact weak_of ⟨wn rfl (by first | rfl | simp), rfl, rfl, rfl, rfl, rfl, rfl, rfl, rfl, rfl, trivial⟩ ⟨rfl, ⟨rfl, rfl⟩, trivial⟩
            · have H := bf h H
              refine wkd ?_
              cases H
              exact weak_of ⟨wn rfl (by first | rfl | simp), rfl, rfl, rfl, rfl, rfl, rfl, rfl, rfl, rfl, trivial⟩ ⟨rfl, ⟨rfl, rfl⟩, trivial⟩
          refine wkd ?_
          cases H
          refine iq_n ?_
          exact weak_of ⟨wn rfl (by first | rfl | simp), rfl, rfl, rfl, rfl, rfl, rfl, rfl, rfl, rfl, trivial⟩ ⟨rfl, ⟨rfl, rfl⟩, trivial⟩
        · have H := bf h H
          refine wkd ?_
          cases H
          refine iq_e (fun hq => ?_)
          cases hq
          refine wkd ?_
          exact weak_of ⟨wn rfl (by first | rfl | simp), rfl, rfl, rfl, rfl, rfl, rfl, rfl, trivial⟩ ⟨rfl, ⟨rfl, rfl⟩, trivial⟩
      refine wkd ?_
      obtain ⟨v23, Hj, H⟩ := ob H
      refine awr_join ⟨[(2, tB v23)], [], 0⟩ ?_ ?_
      · have H := Hj
        refine wkd ?_
        refine g2 rfl rfl rfl (fun h => ?_) (fun h => ?_)
        · have H := bt h H
          refine wkd ?_
          refine g2 rfl rfl rfl (fun h => ?_) (fun h => ?_)
          · have H := bt h H
            refine wkd ?_
            obtain ⟨r24, hr24, H⟩ := ob H
            refine awr_ng rfl rfl rfl rfl (ca rfl rfl rfl (iRoamingCodeName_c hr24) trivial rfl rfl rfl rfl) ?_
            refine wkd ?_
            refine g2 rfl rfl rfl (fun h => ?_) (fun h => ?_)
            · have H := bt h H
              refine wkd ?_
              obtain ⟨r25, hr25, H⟩ := ob H
              refine awr_ng rfl rfl rfl rfl (ca rfl rfl rfl (iRoamingCodeName_c hr25) trivial rfl rfl rfl rfl) ?_
              refine wkd ?_
              cases H
              exact weak_of ⟨rfl, rfl, trivial⟩ trivial
            · have H := bf h H
              refine wkd ?_
              cases H
              exact weak_of ⟨rfl, rfl, trivial⟩ trivial
          · have H := bf h H
            refine wkd ?_
            cases H
            exact weak_of ⟨rfl, rfl, trivial⟩ trivial
        · have H := bf h H
          refine wkd ?_
          cases H
          exact weak_of ⟨rfl, rfl, trivial⟩ trivial
      refine wkd ?_
      cases H
      exact fin_ret (.cons (.tmp rfl) .nil) rfl rfl rfl
def lFnRoamingAccess (a0 : List Int) : Option Bool :=
  Option.bind (lbig a0) fun r1 => bif r1 then (some true) else (Option.bind (sDrawCheckRoaming a0) fun r2 => Option.bind (iCheckRoaming r2.1 r2.2.1 r2.2.2.1 r2.2.2.2) fun r3 => Option.bind (bif ltB r2.2.2.2 0 then (some true) else (bif leB 4 r2.2.2.2 then (some true) else (Option.bind (sIsValidSubscriberID r2.2.2.1) fun r5 => some (!r5)))) fun (v4 : Bool) => bif v4 then (some (eqB r3 1)) else (bif eqB r2.2.2.2 r2.2.2.1.Network then (Option.bind (bif eqB r3 0 then (Option.bind (iRoamingAllowed r2.1 r2.2.2.1.Network r2.2.2.2) fun r7 => bif r7 then (Option.bind (iHomeRouted r2.1 r2.2.2.1 r2.2.2.2) fun r8 => some (!r8)) else (some false)) else (some false)) fun (v6 : Bool) => some v6) else (Option.bind (lcontains r2.1.RoamingNetworks r2.2.2.2) fun r9 => bif !r9 then (Option.bind (bif eqB r3 2 then (Option.bind (iRoamingAllowed r2.1 r2.2.2.1.Network r2.2.2.2) fun r11 => bif !r11 then (Option.bind (iHomeRouted r2.1 r2.2.2.1 r2.2.2.2) fun r12 => some (!r12)) else (some false)) else (some false)) fun (v10 : Bool) => some v10) else (Option.bind (iFindAgreement r2.2.1 r2.2.2.1.Network r2.2.2.2) fun r13 => Option.bind (sFindAgreement r2.2.1 r2.2.2.1.Network r2.2.2.2) fun r14 => Option.bind (bif !eqB r13 r14 then (some true) else (Option.bind (iHomeRouted r2.1 r2.2.2.1 r2.2.2.2) fun r16 => some (!r16))) fun (v15 : Bool) => bif v15 then (some false) else (Option.bind (bif ltB r13 0 then (some true) else (Option.bind (ix r2.2.1 r13) fun x18 => Option.bind (sIsValidAgreement x18) fun r19 => some (!r19))) fun (v17 : Bool) => bif v17 then (some (eqB r3 3)) else (some (eqB r3 0)))))))
theorem lFnRoamingAccess_c {a0 : List Int} {r : Bool} (H : lFnRoamingAccess a0 = some r) : Fn Try.prog 4 [aL (a0.map eU8)] [.c (.d (.b r))] := by
  refine fn_in Try.func4 rfl (by kernel_rfl) Try.ntmps4 rfl rfl rfl ?_
  refine wk ?_
  obtain ⟨r1, hr1, H⟩ := ob H
  refine awr_n rfl (ca rfl rfl rfl (lbig_c hr1) trivial rfl rfl rfl rfl) ?_
  refine wk ?_
  refine awc_cond rfl (fun h => ?_) (fun h => ?_)
  · have H := bt h H
    refine wk ?_
    cases H
    exact fin_ret (.cons (.tmp rfl) .nil) rfl rfl rfl
  · have H := bf h H
    refine wk ?_
    obtain ⟨r2, hr2, H⟩ := ob H
    refine awr_step rfl (cwv [] [(210, 0), (211, 1)] 2 (sDrawCheckRoaming_c hr2) rfl rfl rfl rfl rfl rfl rfl rfl rfl rfl rfl rfl rfl rfl) ?_
    refine wk ?_
    obtain ⟨r3, hr3, H⟩ := ob H
    refine awr_n rfl (ca rfl rfl rfl (iCheckRoaming_c hr3) ⟨by first | rfl | exact lm _, by first | rfl | exact lm _, trivial⟩ rfl rfl rfl rfl) ?_
    refine wk ?_
    obtain ⟨v4, Hj, H⟩ := ob H
    refine awr_join ⟨[(3, .v (.c (.p 2 0))), (4, .v (.c (.w 1 r2.2.1.length))), (5, .v (.c (.p 3 0))), (6, tI r2.2.2.2), (7, tI r3), (33, tB v4)], [(0, .rown 3 1 (r2.1.RoamingNetworks.map eI) true), (1, .row 52 4 (r2.2.1.map eTRoamingAgreement) true true), (2, .var 40 [.d false (.i .i64 r2.1.RateLimit), .d false (.i .i64 r2.1.BestClass), .d false (.i .i64 r2.1.GrantSize), .wn 0 r2.1.RoamingNetworks.length]), (3, .var 30 [.d false (.i .i64 r2.2.2.1.Network), .d false (.i .i64 r2.2.2.1.Number)])], 4⟩ ?_ ?_
    · have H := Hj
      refine wk ?_
      refine g2 rfl rfl rfl (fun h => ?_) (fun h => ?_)
      · have H := bt h H
        refine wk ?_
        cases H
        exact weak_of ⟨rfl, rfl, wn rfl (by first | rfl | simp), rfl, rfl, rfl, rfl, rfl, rfl, rfl, rfl, rfl, trivial⟩ ⟨rfl, ⟨rfl, rfl⟩, rfl, ⟨rfl, rfl⟩, rfl, ⟨rfl, rfl⟩, rfl, ⟨rfl, rfl⟩, trivial⟩
      · have H := bf h H
        refine wk ?_
        refine g2 rfl rfl rfl (fun h => ?_) (fun h => ?_)
        · have H := bt h H
          refine wk ?_
          cases H
          exact weak_of ⟨rfl, rfl, wn rfl (by first | rfl | simp), rfl, rfl, rfl, rfl, rfl, rfl, rfl, rfl, rfl, trivial⟩ ⟨rfl, ⟨rfl, rfl⟩, rfl, ⟨rfl, rfl⟩, rfl, ⟨rfl, rfl⟩, rfl, ⟨rfl, rfl⟩, trivial⟩
        · have H := bf h H
          refine wk ?_
          obtain ⟨r5, hr5, H⟩ := ob H
          refine awr_ng rfl rfl rfl rfl (ca rfl rfl rfl (sIsValidSubscriberID_c hr5) trivial rfl rfl rfl rfl) ?_
          refine wk ?_
          cases H
          exact weak_of ⟨rfl, rfl, wn rfl (by first | rfl | simp), rfl, rfl, rfl, rfl, rfl, rfl, rfl, rfl, rfl, trivial⟩ ⟨rfl, ⟨rfl, rfl⟩, rfl, ⟨rfl, rfl⟩, rfl, ⟨rfl, rfl⟩, rfl, ⟨rfl, rfl⟩, trivial⟩
    refine wk ?_
    refine awc_cond rfl (fun h => ?_) (fun h => ?_)
    · have H := bt h H
      refine wk ?_
      cases H
      exact fin_ret (.cons (.tmp rfl) .nil) rfl rfl rfl
    · have H := bf h H
      refine wk ?_
      refine awc_cond rfl (fun h => ?_) (fun h => ?_)
      · have H := bt h H
        refine wk ?_
        obtain ⟨v6, Hj, H⟩ := ob H
        refine awr_join ⟨[(2, tB v6)], [], 0⟩ ?_ ?_
        · have H := Hj
          refine wk ?_
          refine g2 rfl rfl rfl (fun h => ?_) (fun h => ?_)
          · have H := bt h H
            refine wk ?_
            obtain ⟨r7, hr7, H⟩ := ob H
            refine awr_ng rfl rfl rfl rfl (ca rfl rfl rfl (iRoamingAllowed_c hr7) ⟨by first | rfl | exact lm _, trivial⟩ rfl rfl rfl rfl) ?_
            refine wk ?_
            refine g2 rfl rfl rfl (fun h => ?_) (fun h => ?_)
            · have H := bt h H
              refine wk ?_
              obtain ⟨r8, hr8, H⟩ := ob H
              refine awr_ng rfl rfl rfl rfl (ca rfl rfl rfl (iHomeRouted_c hr8) ⟨by first | rfl | exact lm _, trivial⟩ rfl rfl rfl rfl) ?_
              refine wk ?_
              cases H
              exact weak_of ⟨rfl, rfl, trivial⟩ trivial
            · have H := bf h H
              refine wk ?_
              cases H
              exact weak_of ⟨rfl, rfl, trivial⟩ trivial
          · have H := bf h H
            refine wk ?_
            cases H
            exact weak_of ⟨rfl, rfl, trivial⟩ trivial
        refine wk ?_
        cases H
        exact fin_ret (.cons (.tmp rfl) .nil) rfl rfl rfl
      · have H := bf h H
        refine wk ?_
        obtain ⟨r9, hr9, H⟩ := ob H
        refine awr_n rfl (ca rfl rfl rfl (lcontains_c hr9) ⟨by first | rfl | exact lm _, trivial⟩ rfl rfl rfl rfl) ?_
        refine wk ?_
        refine awc_cond rfl (fun h => ?_) (fun h => ?_)
        · have H := bt h H
          refine wk ?_
          obtain ⟨v10, Hj, H⟩ := ob H
          refine awr_join ⟨[(2, tB v10)], [], 0⟩ ?_ ?_
          · have H := Hj
            refine wk ?_
            refine g2 rfl rfl rfl (fun h => ?_) (fun h => ?_)
            · have H := bt h H
              refine wk ?_
              obtain ⟨r11, hr11, H⟩ := ob H
              refine awr_ng rfl rfl rfl rfl (ca rfl rfl rfl (iRoamingAllowed_c hr11) ⟨by first | rfl | exact lm _, trivial⟩ rfl rfl rfl rfl) ?_
              refine wk ?_
              refine g2 rfl rfl rfl (fun h => ?_) (fun h => ?_)
              · have H := bt h H
                refine wk ?_
                obtain ⟨r12, hr12, H⟩ := ob H
                refine awr_ng rfl rfl rfl rfl (ca rfl rfl rfl (iHomeRouted_c hr12) ⟨by first | rfl | exact lm _, trivial⟩ rfl rfl rfl rfl) ?_
                refine wk ?_
                cases H
                exact weak_of ⟨rfl, rfl, trivial⟩ trivial
              · have H := bf h H
                refine wk ?_
                cases H
                exact weak_of ⟨rfl, rfl, trivial⟩ trivial
            · have H := bf h H
              refine wk ?_
              cases H
              exact weak_of ⟨rfl, rfl, trivial⟩ trivial
          refine wk ?_
          cases H
          exact fin_ret (.cons (.tmp rfl) .nil) rfl rfl rfl
        · have H := bf h H
          refine wk ?_
          obtain ⟨r13, hr13, H⟩ := ob H
          refine awr_n rfl (ca rfl rfl rfl (iFindAgreement_c hr13) ⟨by first | rfl | exact lm _, trivial⟩ rfl rfl rfl rfl) ?_
          refine wk ?_
          obtain ⟨r14, hr14, H⟩ := ob H
          refine awr_n rfl (ca rfl rfl rfl (sFindAgreement_c hr14) ⟨by first | rfl | exact lm _, trivial⟩ rfl rfl rfl rfl) ?_
          refine wk ?_
          obtain ⟨v15, Hj, H⟩ := ob H
          refine awr_join ⟨[(4, .v (.c (.w 1 r2.2.1.length))), (7, tI r3), (8, tI r13), (96, tB v15)], [(1, .row 52 4 (r2.2.1.map eTRoamingAgreement) true true)], 2⟩ ?_ ?_
          · have H := Hj
            refine wk ?_
            refine g2 rfl rfl rfl (fun h => ?_) (fun h => ?_)
            · have H := bt h H
              refine wk ?_
              cases H
              exact weak_of ⟨wn rfl (by first | rfl | simp), rfl, rfl, rfl, rfl, rfl, rfl, rfl, trivial⟩ ⟨rfl, ⟨rfl, rfl⟩, trivial⟩
            · have H := bf h H
              refine wk ?_
              obtain ⟨r16, hr16, H⟩ := ob H
              refine awr_ng rfl rfl rfl rfl (ca rfl rfl rfl (iHomeRouted_c hr16) ⟨by first | rfl | exact lm _, trivial⟩ rfl rfl rfl rfl) ?_
              refine wk ?_
              cases H
              exact weak_of ⟨wn rfl (by first | rfl | simp), rfl, rfl, rfl, rfl, rfl, rfl, rfl, trivial⟩ ⟨rfl, ⟨rfl, rfl⟩, trivial⟩
          refine wk ?_
          refine awc_cond rfl (fun h => ?_) (fun h => ?_)
          · have H := bt h H
            refine wk ?_
            cases H
            exact fin_ret (.cons (.tmp rfl) .nil) rfl rfl rfl
          · have H := bf h H
            refine wk ?_
            obtain ⟨v17, Hj, H⟩ := ob H
            refine awr_join ⟨[(7, tI r3), (106, tB v17)], [], 0⟩ ?_ ?_
            · have H := Hj
              refine wk ?_
              refine g2 rfl rfl rfl (fun h => ?_) (fun h => ?_)
              · have H := bt h H
                refine wk ?_
                cases H
                exact weak_of ⟨rfl, rfl, rfl, rfl, trivial⟩ trivial
              · have H := bf h H
                refine wk ?_
                obtain ⟨x18, hx18, H⟩ := ob H
                refine awr_ng rfl rfl rfl rfl (xwT hx18 (by first | rfl | simp) rfl rfl rfl) ?_
                refine wk ?_
                refine awr_ng rfl rfl rfl rfl (oea rfl rfl rfl (ix_map eTRoamingAgreement hx18) rfl) ?_
                refine wk ?_
                obtain ⟨r19, hr19, H⟩ := ob H
                refine awr_ng rfl rfl rfl rfl (ca rfl rfl rfl (sIsValidAgreement_c hr19) trivial rfl rfl rfl rfl) ?_
                refine wk ?_
                cases H
                exact weak_of ⟨rfl, rfl, rfl, rfl, trivial⟩ trivial
            refine wk ?_
            refine awc_cond rfl (fun h => ?_) (fun h => ?_)
            · have H := bt h H
              refine wk ?_
              cases H
              exact fin_ret (.cons (.tmp rfl) .nil) rfl rfl rfl
            · have H := bf h H
              refine wk ?_
              cases H
              exact fin_ret (.cons (.tmp rfl) .nil) rfl rfl rfl
def lFnRoamingRegistration (a0 : List Int) : Option Bool :=
  Option.bind (lbig a0) fun r1 => bif r1 then (some true) else (Option.bind (sDrawRoaming a0) fun r2 => Option.bind (lat a0 0) fun r3 => Option.bind (lat a0 1) fun r4 => Option.bind (lat a0 2) fun r5 => Option.bind (iRegisterRoaming r2.1 r2.2.1 r2.2.2.1 r2.2.2.2 (Int.tmod r3 4) (Int.tmod r4 3) (WR (100 + (Int.tmod r5 3)))) fun r6 => Option.bind (sCheckRoaming r2.2.1 r2.2.2.1 r2.2.2.2 (Int.tmod r3 4)) fun r7 => bif !eqB r7 0 then (Option.bind (sCheckRoaming r2.2.1 r2.2.2.1 r2.2.2.2 (Int.tmod r3 4)) fun r8 => Option.bind (bif eqB r6.Code r8 then (Option.bind (lsameRegistrations r6.Registrations r2.1) fun r10 => bif r10 then (bif eqB r6.Cancelled (-1) then (some (eqB r6.TempID.Pool 0 && (eqB r6.TempID.Number 0 && true))) else (some false)) else (some false)) else (some false)) fun (v9 : Bool) => some v9) else (bif !eqB r6.Code 0 then (Option.bind (bif eqB r6.Code 4 then (Option.bind (lsameRegistrations r6.Registrations r2.1) fun r12 => bif r12 then (bif eqB r6.Cancelled (-1) then (bif leB 8 ((r2.1.length : Nat) : Int) then (some true) else (some (eqB r6.Code 4))) else (some false)) else (some false)) else (bif eqB r6.Code 5 then (Option.bind (lsameRegistrations r6.Registrations r2.1) fun r13 => bif r13 then (bif eqB r6.Cancelled (-1) then (bif leB 8 ((r2.1.length : Nat) : Int) then (some true) else (some (eqB r6.Code 4))) else (some false)) else (some false)) else (some false))) fun (v11 : Bool) => some v11) else (Option.bind (sFindRegistration r2.1 r2.2.2.2) fun r14 => Option.bind (bif leB 0 r14 then (Option.bind (ix r2.1 r14) fun x16 => some (!eqB x16.Network (Int.tmod r3 4))) else (some false)) fun (v15 : Bool) => Option.bind (bif v15 then (Option.bind (ix r2.1 r14) fun x18 => some x18.Network) else (some (-1))) fun (v17 : Int) => Option.bind (iResolveTempID r6.Registrations (Int.tmod r3 4) r6.TempID) fun r19 => Option.bind (iLocateArea r6.Registrations (Int.tmod r3 4) r2.2.2.2) fun r20 => Option.bind (bif r19.2 then (bif (eqB r19.1.Network r2.2.2.2.Network && (eqB r19.1.Number r2.2.2.2.Number && true)) then (bif r20.2 then (bif eqB r20.1 (Int.tmod r4 3) then (bif eqB r6.Cancelled v17 then (bif eqB r6.TempID.Pool (Int.tmod r3 4) then (Option.bind (iAreValidRegistrations r6.Registrations) fun r22 => bif r22 then (Option.bind (iTempIDsIn r6.Registrations (Int.tmod r3 4)) fun r23 => some (leB 1 ((r23.length : Nat) : Int))) else (some false)) else (some false)) else (some false)) else (some false)) else (some false)) else (some false)) else (some false)) fun (v21 : Bool) => some v21)))
theorem lFnRoamingRegistration_c {a0 : List Int} {r : Bool} (H : lFnRoamingRegistration a0 = some r) : Fn Try.prog 5 [aL (a0.map eU8)] [.c (.d (.b r))] := by
  refine fn_in Try.func5 rfl (by kernel_rfl) Try.ntmps5 rfl rfl rfl ?_
  refine wkz ?_
  obtain ⟨r1, hr1, H⟩ := ob H
  refine awr_n rfl (ca rfl rfl rfl (lbig_c hr1) trivial rfl rfl rfl rfl) ?_
  refine wkz ?_
  refine awc_cond rfl (fun h => ?_) (fun h => ?_)
  · have H := bt h H
    refine wkz ?_
    cases H
    exact fin_ret (.cons (.tmp rfl) .nil) rfl rfl rfl
  · have H := bf h H
    refine wkz ?_
    obtain ⟨r2, hr2, H⟩ := ob H
    refine awr_step rfl (cwv [] [(210, 0), (211, 1), (212, 2)] 3 (sDrawRoaming_c hr2) rfl rfl rfl rfl rfl rfl rfl rfl rfl rfl rfl rfl rfl rfl) ?_
    refine wkz ?_
    obtain ⟨r3, hr3, H⟩ := ob H
    refine awr_n rfl (ca rfl rfl rfl (lat_c hr3) trivial rfl rfl rfl rfl) ?_
    refine wkz ?_
    refine awr_n rfl (ir rfl rfl rfl (by decide)) ?_
    refine wkz ?_
    obtain ⟨r4, hr4, H⟩ := ob H
    refine awr_n rfl (ca rfl rfl rfl (lat_c hr4) trivial rfl rfl rfl rfl) ?_
    refine wkz ?_
    refine awr_n rfl (ir rfl rfl rfl (by decide)) ?_
    refine wkz ?_
    refine awc_dz [0, 1, 2, 3, 4, 5, 6, 7, 8, 9, 10, 11, 12] Try.follows (by kernel_rfl) (by kernel_rfl) rfl ?_
    refine wkz ?_
    obtain ⟨r5, hr5, H⟩ := ob H
    refine dz_n rfl (ca rfl rfl rfl (lat_c hr5) trivial rfl rfl rfl rfl) ?_
    refine wkz ?_
    refine dz_n rfl (ir rfl rfl rfl (by decide)) ?_
    refine wkz ?_
    obtain ⟨r6, hr6, H⟩ := ob H
    refine dz_n rfl (ca rfl rfl rfl (iRegisterRoaming_c hr6) ⟨by first | rfl | exact lm _, by first | rfl | exact lm _, by first | rfl | exact lm _, trivial⟩ rfl rfl rfl rfl) ?_
    refine wkz ?_
    refine dz_w rfl (spx 100042 rfl rfl rfl rfl rfl rfl rfl rfl) ?_
    refine wkz ?_
    obtain ⟨r7, hr7, H⟩ := ob H
    refine awr_n rfl (ca rfl rfl rfl (sCheckRoaming_c hr7) ⟨by first | rfl | exact lm _, by first | rfl | exact lm _, trivial⟩ rfl rfl rfl rfl) ?_
    refine wkz ?_
    refine awc_cond rfl (fun h => ?_) (fun h => ?_)
    · have H := bt h H
      refine wkz ?_
      refine awc_draw Try.follows rfl ?_
      refine wkq ?_
      obtain ⟨r8, hr8, H⟩ := ob H
      refine dr_n rfl (ca rfl rfl rfl (sCheckRoaming_c hr8) ⟨by first | rfl | exact lm _, by first | rfl | exact lm _, trivial⟩ rfl rfl rfl rfl) ?_
      refine wkq ?_
      obtain ⟨v9, Hj, H⟩ := ob H
      refine dr_join ⟨[(2, tB v9)], [], 0⟩ ?_ ?_
      · have H := Hj
        refine wkq ?_
        refine dg2 rfl rfl rfl (fun h => ?_) (fun h => ?_)
        · have H := bt h H
          refine wkq ?_
          obtain ⟨r10, hr10, H⟩ := ob H
          refine dr_ng rfl rfl rfl rfl (ca rfl rfl rfl (lsameRegistrations_c hr10) ⟨by first | rfl | exact lm _, by first | rfl | exact lm _, trivial⟩ rfl rfl rfl rfl) ?_
          refine wkq ?_
          refine dg2 rfl rfl rfl (fun h => ?_) (fun h => ?_)
          · have H := bt h H
            refine wkq ?_
            refine dg2 rfl rfl rfl (fun h => ?_) (fun h => ?_)
            · have H := bt h H
              refine wkq ?_
              refine wkz ?_
              cases H
              exact weak_of ⟨rfl, rfl, trivial⟩ trivial
            · have H := bf h H
              refine wkq ?_
              refine wkz ?_
              cases H
              exact weak_of ⟨rfl, rfl, trivial⟩ trivial
          · have H := bf h H
            refine wkq ?_
            refine wkz ?_
            cases H
            exact weak_of ⟨rfl, rfl, trivial⟩ trivial
        · have H := bf h H
          refine wkq ?_
          refine wkz ?_
          cases H
          exact weak_of ⟨rfl, rfl, trivial⟩ trivial
      refine wkq ?_
      cases H
      exact fin_ret (.cons (.tmp rfl) .nil) rfl rfl rfl
    · have H := bf h H
      refine wkz ?_
      refine awc_cond rfl (fun h => ?_) (fun h => ?_)
      · have H := bt h H
        refine wkz ?_
        obtain ⟨v11, Hj, H⟩ := ob H
        refine awr_join ⟨[(2, tB v11)], [], 0⟩ ?_ ?_
        · have H := Hj
          refine wkz ?_
          refine g2 rfl rfl rfl (fun h => ?_) (fun h => ?_)
          · have H := bt h H
            refine wkz ?_
            obtain ⟨r12, hr12, H⟩ := ob H
            refine awr_ng rfl rfl rfl rfl (ca rfl rfl rfl (lsameRegistrations_c hr12) ⟨by first | rfl | exact lm _, by first | rfl | exact lm _, trivial⟩ rfl rfl rfl rfl) ?_
            refine wkz ?_
            refine g2 rfl rfl rfl (fun h => ?_) (fun h => ?_)
            · have H := bt h H
              refine wkz ?_
              refine g2 rfl rfl rfl (fun h => ?_) (fun h => ?_)
              · have H := bt h H
                refine wkz ?_
                refine g2 rfl rfl rfl (fun h => ?_) (fun h => ?_)
                · have H := bt h H
                  refine wkz ?_
                  cases H
                  exact weak_of ⟨rfl, rfl, trivial⟩ trivial
                · have H := bf h H
                  refine wkz ?_
                  cases H
                  exact weak_of ⟨rfl, rfl, trivial⟩ trivial
              · have H := bf h H
                refine wkz ?_
                cases H
                exact weak_of ⟨rfl, rfl, trivial⟩ trivial
            · have H := bf h H
              refine wkz ?_
              cases H
              exact weak_of ⟨rfl, rfl, trivial⟩ trivial
          · have H := bf h H
            refine wkz ?_
            refine g2 rfl rfl rfl (fun h => ?_) (fun h => ?_)
            · have H := bt h H
              refine wkz ?_
              obtain ⟨r13, hr13, H⟩ := ob H
              refine awr_ng rfl rfl rfl rfl (ca rfl rfl rfl (lsameRegistrations_c hr13) ⟨by first | rfl | exact lm _, by first | rfl | exact lm _, trivial⟩ rfl rfl rfl rfl) ?_
              refine wkz ?_
              refine g2 rfl rfl rfl (fun h => ?_) (fun h => ?_)
              · have H := bt h H
                refine wkz ?_
                refine g2 rfl rfl rfl (fun h => ?_) (fun h => ?_)
                · have H := bt h H
                  refine wkz ?_
                  refine g2 rfl rfl rfl (fun h => ?_) (fun h => ?_)
                  · have H := bt h H
                    refine wkz ?_
                    cases H
                    exact weak_of ⟨rfl, rfl, trivial⟩ trivial
                  · have H := bf h H
                    refine wkz ?_
                    cases H
                    exact weak_of ⟨rfl, rfl, trivial⟩ trivial
                · have H := bf h H
                  refine wkz ?_
                  cases H
                  exact weak_of ⟨rfl, rfl, trivial⟩ trivial
              · have H := bf h H
                refine wkz ?_
                cases H
                exact weak_of ⟨rfl, rfl, trivial⟩ trivial
            · have H := bf h H
              refine wkz ?_
              cases H
              exact weak_of ⟨rfl, rfl, trivial⟩ trivial
        refine wkz ?_
        cases H
        exact fin_ret (.cons (.tmp rfl) .nil) rfl rfl rfl
      · have H := bf h H
        refine wkz ?_
        obtain ⟨r14, hr14, H⟩ := ob H
        refine awr_n rfl (ca rfl rfl rfl (sFindRegistration_c hr14) ⟨by first | rfl | exact lm _, trivial⟩ rfl rfl rfl rfl) ?_
        refine wkz ?_
        obtain ⟨v15, Hj, H⟩ := ob H
        refine awr_join ⟨[(3, .v (.c (.w 0 r2.1.length))), (6, .v (.c (.p 4 0))), (7, tI (Int.tmod r3 4)), (8, tI (Int.tmod r4 3)), (9, .v (.c (.p 6 0))), (10, tI (-1)), (11, tI r14), (118, tB v15)], [(0, .row 34 6 (r2.1.map eTRegistration) true true), (4, .var 30 [.d false (.i .i64 r2.2.2.2.Network), .d false (.i .i64 r2.2.2.2.Number)]), (5, .row 34 6 (r6.Registrations.map eTRegistration) true true), (6, .var 57 [.d false (.i .i64 r6.Code), .w 5 r6.Registrations.length, .d false (.i .i64 r6.Cancelled), .d false (.i .i64 r6.TempID.Pool), .d false (.i .i64 r6.TempID.Number)])], 7⟩ ?_ ?_
        · have H := Hj
          refine wkz ?_
          refine g2 rfl rfl rfl (fun h => ?_) (fun h => ?_)
          · have H := bt h H
            refine wkz ?_
            obtain ⟨x16, hx16, H⟩ := ob H
            refine awr_ng rfl rfl rfl rfl (xwT hx16 (by first | rfl | simp) rfl rfl rfl) ?_
            refine wkz ?_
            refine awr_ng rfl rfl rfl rfl (oe rfl rfl rfl (ix_map eTRegistration hx16) rfl) ?_
            refine wkz ?_
            cases H
            exact weak_of ⟨wn rfl (by first | rfl | simp), rfl, rfl, rfl, rfl, rfl, rfl, rfl, rfl, rfl, rfl, rfl, rfl, rfl, rfl, rfl, trivial⟩ ⟨rfl, ⟨rfl, rfl⟩, rfl, ⟨rfl, rfl⟩, rfl, ⟨rfl, rfl⟩, rfl, ⟨rfl, rfl⟩, trivial⟩
          · have H := bf h H
            refine wkz ?_
            cases H
            exact weak_of ⟨wn rfl (by first | rfl | simp), rfl, rfl, rfl, rfl, rfl, rfl, rfl, rfl, rfl, rfl, rfl, rfl, rfl, rfl, rfl, trivial⟩ ⟨rfl, ⟨rfl, rfl⟩, rfl, ⟨rfl, rfl⟩, rfl, ⟨rfl, rfl⟩, rfl, ⟨rfl, rfl⟩, trivial⟩
        refine wkz ?_
        obtain ⟨v17, Hj, H⟩ := ob H
        refine awc_join ⟨[(6, .v (.c (.p 4 0))), (7, tI (Int.tmod r3 4)), (8, tI (Int.tmod r4 3)), (9, .v (.c (.p 6 0))), (10, tI v17)], [(4, .var 30 [.d false (.i .i64 r2.2.2.2.Network), .d false (.i .i64 r2.2.2.2.Number)]), (5, .row 34 6 (r6.Registrations.map eTRegistration) true true), (6, .var 57 [.d false (.i .i64 r6.Code), .w 5 r6.Registrations.length, .d false (.i .i64 r6.Cancelled), .d false (.i .i64 r6.TempID.Pool), .d false (.i .i64 r6.TempID.Number)])], 7⟩ ?_ ?_
        · have H := Hj
          refine wkz ?_
          refine awc_cond rfl (fun h => ?_) (fun h => ?_)
          · have H := bt h H
            refine wkz ?_
            obtain ⟨x18, hx18, H⟩ := ob H
            refine awr_n rfl (xwT hx18 (by first | rfl | simp) rfl rfl rfl) ?_
            refine wkz ?_
            refine awr_n rfl (oe rfl rfl rfl (ix_map eTRegistration hx18) rfl) ?_
            refine wkz ?_
            cases H
            exact weak_of ⟨rfl, rfl, rfl, rfl, rfl, rfl, rfl, rfl, rfl, rfl, trivial⟩ ⟨rfl, ⟨rfl, rfl⟩, rfl, ⟨rfl, rfl⟩, rfl, ⟨rfl, rfl⟩, trivial⟩
          · have H := bf h H
            refine wkz ?_
            cases H
            exact weak_of ⟨rfl, rfl, rfl, rfl, rfl, rfl, rfl, rfl, rfl, rfl, trivial⟩ ⟨rfl, ⟨rfl, rfl⟩, rfl, ⟨rfl, rfl⟩, rfl, ⟨rfl, rfl⟩, trivial⟩
        refine wkz ?_
        obtain ⟨r19, hr19, H⟩ := ob H
        refine awr_n rfl (ca rfl rfl rfl (iResolveTempID_c hr19) ⟨by first | rfl | exact lm _, trivial⟩ rfl rfl rfl rfl) ?_
        refine wkz ?_
        obtain ⟨r20, hr20, H⟩ := ob H
        refine awr_n rfl (ca rfl rfl rfl (iLocateArea_c hr20) ⟨by first | rfl | exact lm _, trivial⟩ rfl rfl rfl rfl) ?_
        refine wkz ?_
        obtain ⟨v21, Hj, H⟩ := ob H
        refine awr_join ⟨[(2, tB v21)], [], 0⟩ ?_ ?_
        · have H := Hj
          refine wkz ?_
          refine g2 rfl rfl rfl (fun h => ?_) (fun h => ?_)
          · have H := bt h H
            refine wkz ?_
            refine g2 rfl rfl rfl (fun h => ?_) (fun h => ?_)
            · have H := bt h H
              refine wkz ?_
              refine g2 rfl rfl rfl (fun h => ?_) (fun h => ?_)
              · have H := bt h H
                refine wkz ?_
                refine g2 rfl rfl rfl (fun h => ?_) (fun h => ?_)
                · have H := bt h H
                  refine wkz ?_
                  refine g2 rfl rfl rfl (fun h => ?_) (fun h => ?_)
                  · have H := bt h H
                    refine wkz ?_
                    refine g2 rfl rfl rfl (fun h => ?_) (fun h => ?_)
                    · have H := bt h H
                      refine wkz ?_
                      obtain ⟨r22, hr22, H⟩ := ob H
                      refine awr_ng rfl rfl rfl rfl (ca rfl rfl rfl (iAreValidRegistrations_c hr22) ⟨by first | rfl | exact lm _, trivial⟩ rfl rfl rfl rfl) ?_
                      refine wkz ?_
                      refine g2 rfl rfl rfl (fun h => ?_) (fun h => ?_)
                      · have H := bt h H
                        refine wkz ?_
                        obtain ⟨r23, hr23, H⟩ := ob H
                        refine awr_ng rfl rfl rfl rfl (ca rfl rfl rfl (iTempIDsIn_c hr23) ⟨by first | rfl | exact lm _, trivial⟩ rfl rfl rfl rfl) ?_
                        refine wkz ?_
                        cases H
                        exact weak_of ⟨rfl, rfl, trivial⟩ trivial
                      · have H := bf h H
                        refine wkz ?_
                        cases H
                        exact weak_of ⟨rfl, rfl, trivial⟩ trivial
                    · have H := bf h H
                      refine wkz ?_
                      cases H
                      exact weak_of ⟨rfl, rfl, trivial⟩ trivial
                  · have H := bf h H
                    refine wkz ?_
                    cases H
                    exact weak_of ⟨rfl, rfl, trivial⟩ trivial
                · have H := bf h H
                  refine wkz ?_
                  cases H
                  exact weak_of ⟨rfl, rfl, trivial⟩ trivial
              · have H := bf h H
                refine wkz ?_
                cases H
                exact weak_of ⟨rfl, rfl, trivial⟩ trivial
            · have H := bf h H
              refine wkz ?_
              cases H
              exact weak_of ⟨rfl, rfl, trivial⟩ trivial
          · have H := bf h H
            refine wkz ?_
            cases H
            exact weak_of ⟨rfl, rfl, trivial⟩ trivial
        refine wkz ?_
        cases H
        exact fin_ret (.cons (.tmp rfl) .nil) rfl rfl rfl
end Go.AM
