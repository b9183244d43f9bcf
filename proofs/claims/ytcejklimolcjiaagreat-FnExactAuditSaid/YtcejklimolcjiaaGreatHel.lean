/-
  Own text: a part of the abstract machine for this seat (Hel). No statement is proved here.
-/
import Derived.Test.YtcejklimolcjiaaGreatHes
import Derived.Test.YtcejklimolcjiaaGreatHem
set_option linter.unusedVariables false
namespace Go.AM
open Go.Proofs
attribute [local irreducible] AWN NS AWO AWR AWC DR Weak iterQ
set_option maxRecDepth 100000
set_option maxHeartbeats 4000000
def lFnExactReadableFlights (a0 : TNetwork) (a1 : List TLeakedKey) (a2 : Int) : Option Bool :=
  Option.bind (lszNetwork a0 1048576) fun r1 => bif ltB r1 0 then (some true) else (Option.bind (lszLeakedKeyS a1 r1) fun r2 => bif ltB r2 0 then (some true) else (Option.bind (ltoNetwork a0) fun r3 => Option.bind (ltoLeakedKeyS a1) fun r4 => Option.bind (sReadableFlights r3 r4 a2) fun r5 => Option.bind (ltoNetwork a0) fun r6 => Option.bind (ltoLeakedKeyS a1) fun r7 => Option.bind (iReadableFlights r6 r7 a2) fun r8 => Option.bind (leqIntS r8 r5) fun r9 => bif !r9 then (some false) else (Option.bind (ltoNetwork a0) fun r10 => Option.bind (leqNetwork r6 r10) fun r11 => bif !r11 then (some false) else (Option.bind (ltoLeakedKeyS a1) fun r12 => Option.bind (leqLeakedKeyS r7 r12) fun r13 => bif !r13 then (some false) else (Option.bind (lmarkNetwork_z r6 1) fun r14 => Option.bind (lmarkLeakedKeyS_z r7 r14) fun r15 => Option.bind (bif ltB r15 0 then (some true) else (Option.bind (leqIntS r8 r5) fun r17 => some (!r17))) fun (v16 : Bool) => bif v16 then (some false) else (Option.bind (lmarkIntS r8 1) fun r18 => bif lenEq r18.2 r8 then (Option.bind (lheldIntS r18.2 1) fun r19 => bif ltB r19 0 then (some false) else (bif !eqB r19 r18.1 then (some false) else (Option.bind (ltoNetwork a0) fun r20 => Option.bind (ltoLeakedKeyS a1) fun r21 => Option.bind (iReadableFlights r20 r21 a2) fun r22 => Option.bind (leqIntS r22 r5) fun r23 => bif !r23 then (some false) else (Option.bind (lheldIntS r18.2 1) fun r24 => bif ltB r24 0 then (some false) else (bif !eqB r24 r18.1 then (some false) else (some true)))))) else none))))))
theorem lFnExactReadableFlights_c {a0 : TNetwork} {a1 : List TLeakedKey} {a2 : Int} {r : Bool} (H : lFnExactReadableFlights a0 a1 a2 = some r) : Fn Tryz.prog 3 [.agg (eTNetwork a0), aL (a1.map eTLeakedKey), aI a2] [.c (.d (.b r))] := by
  refine fn_in Tryz.func3 rfl (by kernel_rfl) Tryz.ntmps3 rfl rfl rfl ?_
  refine wkd ?_
  obtain ⟨r1, hr1, H⟩ := ob H
  refine awr_n rfl (ca rfl rfl rfl (lszNetwork_c hr1) trivial rfl rfl rfl rfl) ?_
  refine wkd ?_
  refine awc_cond rfl (fun h => ?_) (fun h => ?_)
  · have H := bt h H
    refine wkd ?_
    cases H
    exact fin_ret (.cons (.tmp rfl) .nil) rfl rfl rfl
  · have H := bf h H
    refine wkd ?_
    obtain ⟨r2, hr2, H⟩ := ob H
    refine awr_n rfl (ca rfl rfl rfl (lszLeakedKeyS_c hr2) trivial rfl rfl rfl rfl) ?_
    refine wkd ?_
    refine awc_cond rfl (fun h => ?_) (fun h => ?_)
    · have H := bt h H
      refine wkd ?_
      cases H
      exact fin_ret (.cons (.tmp rfl) .nil) rfl rfl rfl
    · have H := bf h H
      refine wkd ?_
      obtain ⟨r3, hr3, H⟩ := ob H
      refine awr_step rfl (car rfl rfl rfl (ltoNetwork_c hr3) trivial rfl ⟨by first | rfl | exact lm _, by first | rfl | exact lm _, by first | rfl | exact lm _, by first | rfl | exact lm _, by first | rfl | exact lm _, trivial⟩ rfl rfl) ?_
      refine wkd ?_
      obtain ⟨r4, hr4, H⟩ := ob H
      refine awr_step rfl (car rfl rfl rfl (ltoLeakedKeyS_c hr4) trivial rfl ⟨by first | rfl | exact lm _, trivial⟩ rfl rfl) ?_
      refine wkd ?_
      obtain ⟨r5, hr5, H⟩ := ob H
      refine awr_n rfl (ca rfl rfl rfl (sReadableFlights_c hr5) trivial rfl rfl rfl rfl) ?_
      refine wkd ?_
      obtain ⟨r6, hr6, H⟩ := ob H
      refine awr_step rfl (car rfl rfl rfl (ltoNetwork_c hr6) trivial rfl ⟨by first | rfl | exact lm _, by first | rfl | exact lm _, by first | rfl | exact lm _, by first | rfl | exact lm _, by first | rfl | exact lm _, trivial⟩ rfl rfl) ?_
      refine wkd ?_
      obtain ⟨r7, hr7, H⟩ := ob H
      refine awr_step rfl (car rfl rfl rfl (ltoLeakedKeyS_c hr7) trivial rfl ⟨by first | rfl | exact lm _, trivial⟩ rfl rfl) ?_
      refine wkd ?_
      obtain ⟨r8, hr8, H⟩ := ob H
      refine awr_n rfl (ca rfl rfl rfl (iReadableFlights_c hr8) trivial rfl rfl rfl rfl) ?_
      refine wkd ?_
      obtain ⟨r9, hr9, H⟩ := ob H
      refine awr_n rfl (ca rfl rfl rfl (leqIntS_c hr9) ⟨by first | rfl | exact lm _, by first | rfl | exact lm _, trivial⟩ rfl rfl rfl rfl) ?_
      refine wkd ?_
      refine awc_cond rfl (fun h => ?_) (fun h => ?_)
      · have H := bt h H
        refine wkd ?_
        cases H
        exact fin_ret (.cons (.tmp rfl) .nil) rfl rfl rfl
      · have H := bf h H
        refine wkd ?_
        obtain ⟨r10, hr10, H⟩ := ob H
        refine dr_n rfl (ca rfl rfl rfl (ltoNetwork_c hr10) trivial rfl rfl rfl rfl) ?_
        refine wkd ?_
        obtain ⟨r11, hr11, H⟩ := ob H
        refine dr_n rfl (ca rfl rfl rfl (leqNetwork_c hr11) ⟨by first | rfl | exact lm _, by first | rfl | exact lm _, by first | rfl | exact lm _, by first | rfl | exact lm _, by first | rfl | exact lm _, trivial⟩ rfl rfl rfl rfl) ?_
        refine wkd ?_
        refine awc_cond rfl (fun h => ?_) (fun h => ?_)
        · have H := bt h H
          refine wkd ?_
          cases H
          exact fin_ret (.cons (.tmp rfl) .nil) rfl rfl rfl
        · have H := bf h H
          refine wkd ?_
          obtain ⟨r12, hr12, H⟩ := ob H
          refine awr_step rfl (car rfl rfl rfl (ltoLeakedKeyS_c hr12) trivial rfl ⟨by first | rfl | exact lm _, trivial⟩ rfl rfl) ?_
          refine wkd ?_
          obtain ⟨r13, hr13, H⟩ := ob H
          refine awr_n rfl (ca rfl rfl rfl (leqLeakedKeyS_c hr13) trivial rfl rfl rfl rfl) ?_
          refine wkd ?_
          refine awc_cond rfl (fun h => ?_) (fun h => ?_)
          · have H := bt h H
            refine wkd ?_
            cases H
            exact fin_ret (.cons (.tmp rfl) .nil) rfl rfl rfl
          · have H := bf h H
            refine wkd ?_
            obtain ⟨r14, hr14, H⟩ := ob H
            refine awr_weak (weak_fg (l := 4)) ?_
            refine awr_step rfl (cm (l := 4) rfl rfl (lmarkNetwork_z_c hr14) rfl rfl rfl) ?_
            refine wkd ?_
            obtain ⟨r15, hr15, H⟩ := ob H
            refine awr_step rfl (cm (l := 6) rfl rfl (lmarkLeakedKeyS_z_c hr15) rfl rfl rfl) ?_
            refine wkd ?_
            obtain ⟨v16, Hj, H⟩ := ob H
            refine awr_join ⟨[(1, .v (.c (.d false (.l (a1.map eTLeakedKey))))), (2, tI a2), (3, .v (.c (.p 0 0))), (8, .v (.c (.w 3 r5.length))), (11, .v (.c (.w 7 r8.length))), (67, tB v16)], [(0, .var 32 [.d false (.l (a0.Map.Cells.map eTCell)), .d false (.l (a0.Devices.map eTDevice)), .d false (.l (a0.Sessions.map eTSession)), .d false (.l (a0.Accounts.map eTAccount)), .d false (.l (a0.Flights.map eTFlight)), .d false (.i .i64 a0.DownCells), .d false (.i .i64 a0.Core.Size), .d false (.i .i64 a0.Core.UpMask), .d false (.i .i64 a0.Now), .d false (.i .i64 a0.Lost)]), (3, .row 3 1 (r5.map eI) true true), (7, .row 3 1 (r8.map eI) true true)], 8⟩ ?_ ?_
            · have H := Hj
              refine wkd ?_
              refine g2 rfl rfl rfl (fun h => ?_) (fun h => ?_)
              · have H := bt h H
                refine wkd ?_
                cases H
                exact weak_of ⟨rfl, rfl, rfl, rfl, rfl, rfl, wn rfl (by first | rfl | simp), rfl, wn rfl (by first | rfl | simp), rfl, rfl, rfl, trivial⟩ ⟨rfl, ⟨rfl, rfl⟩, rfl, ⟨rfl, rfl⟩, rfl, ⟨rfl, rfl⟩, trivial⟩
              · have H := bf h H
                refine wkd ?_
                obtain ⟨r17, hr17, H⟩ := ob H
                refine awr_ng rfl rfl rfl rfl (ca rfl rfl rfl (leqIntS_c hr17) ⟨by first | rfl | exact lm _, by first | rfl | exact lm _, trivial⟩ rfl rfl rfl rfl) ?_
                refine wkd ?_
                cases H
                exact weak_of ⟨rfl, rfl, rfl, rfl, rfl, rfl, wn rfl (by first | rfl | simp), rfl, wn rfl (by first | rfl | simp), rfl, rfl, rfl, trivial⟩ ⟨rfl, ⟨rfl, rfl⟩, rfl, ⟨rfl, rfl⟩, rfl, ⟨rfl, rfl⟩, trivial⟩
            refine wkd ?_
            refine awc_cond rfl (fun h => ?_) (fun h => ?_)
            · have H := bt h H
              refine wkd ?_
              cases H
              exact fin_ret (.cons (.tmp rfl) .nil) rfl rfl rfl
            · have H := bf h H
              refine wkd ?_
              obtain ⟨r18, hr18, H⟩ := ob H
              obtain ⟨hl, H⟩ := rq H
              refine awr_step rfl (cw (o := 7) (lmarkIntS_c hr18) rfl rfl rfl rfl rfl rfl trivial rfl rfl rfl rfl) ?_
              refine awr_weak (weak_flat (enc := eI) (o := 7) rfl (fun _ => rfl)) ?_
              refine awr_weak (weak_wnB (o := 7) (n := r18.2.length) rfl rfl (by repeat (first | exact trivial | refine ⟨leqE hl, ?_⟩ | refine ⟨rfl, ?_⟩)) (by repeat (first | exact trivial | refine ⟨leqE hl, ?_⟩ | refine ⟨rfl, ?_⟩))) ?_
              refine wkd ?_
              obtain ⟨r19, hr19, H⟩ := ob H
              refine awr_n rfl (ca rfl rfl rfl (lheldIntS_c hr19) ⟨by first | rfl | exact lm _, trivial⟩ rfl rfl rfl rfl) ?_
              refine wkd ?_
              refine awc_cond rfl (fun h => ?_) (fun h => ?_)
              · have H := bt h H
                refine wkd ?_
                cases H
                exact fin_ret (.cons (.tmp rfl) .nil) rfl rfl rfl
              · have H := bf h H
                refine wkd ?_
                refine awc_cond rfl (fun h => ?_) (fun h => ?_)
                · have H := bt h H
                  refine wkd ?_
                  cases H
                  exact fin_ret (.cons (.tmp rfl) .nil) rfl rfl rfl
                · have H := bf h H
                  refine wkd ?_
                  obtain ⟨r20, hr20, H⟩ := ob H
                  refine awr_step rfl (car rfl rfl rfl (ltoNetwork_c hr20) trivial rfl ⟨by first | rfl | exact lm _, by first | rfl | exact lm _, by first | rfl | exact lm _, by first | rfl | exact lm _, by first | rfl | exact lm _, trivial⟩ rfl rfl) ?_
                  refine wkd ?_
                  obtain ⟨r21, hr21, H⟩ := ob H
                  refine awr_step rfl (car rfl rfl rfl (ltoLeakedKeyS_c hr21) trivial rfl ⟨by first | rfl | exact lm _, trivial⟩ rfl rfl) ?_
                  refine wkd ?_
                  obtain ⟨r22, hr22, H⟩ := ob H
                  refine awr_n rfl (ca rfl rfl rfl (iReadableFlights_c hr22) trivial rfl rfl rfl rfl) ?_
                  refine wkd ?_
                  obtain ⟨r23, hr23, H⟩ := ob H
                  refine awr_n rfl (ca rfl rfl rfl (leqIntS_c hr23) ⟨by first | rfl | exact lm _, by first | rfl | exact lm _, trivial⟩ rfl rfl rfl rfl) ?_
                  refine wkd ?_
                  refine awc_cond rfl (fun h => ?_) (fun h => ?_)
                  · have H := bt h H
                    refine wkd ?_
                    cases H
                    exact fin_ret (.cons (.tmp rfl) .nil) rfl rfl rfl
                  · have H := bf h H
                    refine wkd ?_
                    obtain ⟨r24, hr24, H⟩ := ob H
                    refine awr_n rfl (ca rfl rfl rfl (lheldIntS_c hr24) ⟨by first | rfl | exact lm _, trivial⟩ rfl rfl rfl rfl) ?_
                    refine wkd ?_
                    refine awc_cond rfl (fun h => ?_) (fun h => ?_)
                    · have H := bt h H
                      refine wkd ?_
                      cases H
                      exact fin_ret (.cons (.tmp rfl) .nil) rfl rfl rfl
                    · have H := bf h H
                      refine wkd ?_
                      refine awc_cond rfl (fun h => ?_) (fun h => ?_)
                      · have H := bt h H
                        refine wkd ?_
                        cases H
                        exact fin_ret (.cons (.tmp rfl) .nil) rfl rfl rfl
                      · have H := bf h H
                        refine wkd ?_
                        cases H
                        exact fin_ret (.cons (.tmp rfl) .nil) rfl rfl rfl
def lFnExactAudit (a0 : TNetwork) : Option Bool :=
  Option.bind (lszNetwork a0 1048576) fun r1 => bif ltB r1 0 then (some true) else (Option.bind (ltoNetwork a0) fun r2 => Option.bind (sAudit r2) fun r3 => Option.bind (ltoNetwork a0) fun r4 => Option.bind (iAudit r4) fun r5 => bif !(booB r5 r3) then (some false) else (Option.bind (ltoNetwork a0) fun r6 => Option.bind (leqNetwork r4 r6) fun r7 => bif !r7 then (some false) else (some true)))
theorem lFnExactAudit_c {a0 : TNetwork} {r : Bool} (H : lFnExactAudit a0 = some r) : Fn Tryz.prog 5 [.agg (eTNetwork a0)] [.c (.d (.b r))] := by
  refine fn_in Tryz.func5 rfl (by kernel_rfl) Tryz.ntmps5 rfl rfl rfl ?_
  refine wkd ?_
  obtain ⟨r1, hr1, H⟩ := ob H
  refine awr_n rfl (ca rfl rfl rfl (lszNetwork_c hr1) trivial rfl rfl rfl rfl) ?_
  refine wkd ?_
  refine awc_cond rfl (fun h => ?_) (fun h => ?_)
  · have H := bt h H
    refine wkd ?_
    cases H
    exact fin_ret (.cons (.tmp rfl) .nil) rfl rfl rfl
  · have H := bf h H
    refine wkd ?_
    obtain ⟨r2, hr2, H⟩ := ob H
    refine awr_step rfl (car rfl rfl rfl (ltoNetwork_c hr2) trivial rfl ⟨by first | rfl | exact lm _, by first | rfl | exact lm _, by first | rfl | exact lm _, by first | rfl | exact lm _, by first | rfl | exact lm _, trivial⟩ rfl rfl) ?_
    refine wkd ?_
    obtain ⟨r3, hr3, H⟩ := ob H
    refine awr_n rfl (ca rfl rfl rfl (sAudit_c hr3) trivial rfl rfl rfl rfl) ?_
    refine wkd ?_
    obtain ⟨r4, hr4, H⟩ := ob H
    refine awr_step rfl (car rfl rfl rfl (ltoNetwork_c hr4) trivial rfl ⟨by first | rfl | exact lm _, by first | rfl | exact lm _, by first | rfl | exact lm _, by first | rfl | exact lm _, by first | rfl | exact lm _, trivial⟩ rfl rfl) ?_
    refine wkd ?_
    obtain ⟨r5, hr5, H⟩ := ob H
    refine awr_n rfl (ca rfl rfl rfl (iAudit_c hr5) trivial rfl rfl rfl rfl) ?_
    refine wkd ?_
    refine awc_cond rfl (fun h => ?_) (fun h => ?_)
    · have H := bt h H
      refine wkd ?_
      cases H
      exact fin_ret (.cons (.tmp rfl) .nil) rfl rfl rfl
    · have H := bf h H
      refine wkd ?_
      obtain ⟨r6, hr6, H⟩ := ob H
      refine dr_n rfl (ca rfl rfl rfl (ltoNetwork_c hr6) trivial rfl rfl rfl rfl) ?_
      refine wkd ?_
      obtain ⟨r7, hr7, H⟩ := ob H
      refine dr_n rfl (ca rfl rfl rfl (leqNetwork_c hr7) ⟨by first | rfl | exact lm _, by first | rfl | exact lm _, by first | rfl | exact lm _, by first | rfl | exact lm _, by first | rfl | exact lm _, trivial⟩ rfl rfl rfl rfl) ?_
      refine wkd ?_
      refine awc_cond rfl (fun h => ?_) (fun h => ?_)
      · have H := bt h H
        refine wkd ?_
        cases H
        exact fin_ret (.cons (.tmp rfl) .nil) rfl rfl rfl
      · have H := bf h H
        refine wkd ?_
        cases H
        exact fin_ret (.cons (.tmp rfl) .nil) rfl rfl rfl
end Go.AM
