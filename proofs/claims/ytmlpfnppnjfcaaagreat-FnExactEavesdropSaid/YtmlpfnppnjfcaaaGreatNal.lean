/-
  Own text: a part of the abstract machine for this seat (Nal). No statement is proved here.
-/
import Derived.Test.YtmlpfnppnjfcaaaGreatNas
import Derived.Test.YtmlpfnppnjfcaaaGreatNam
set_option linter.unusedVariables false
namespace Go.AM
open Go.Proofs
attribute [local irreducible] AWN NS AWO AWR AWC DR Weak iterQ
set_option maxRecDepth 100000
set_option maxHeartbeats 4000000
def lFnExactEavesdrop (a0 : TNetwork) (a1 : List TLeakedKey) (a2 : Int) : Option Bool :=
  Option.bind (lszNetwork a0 1048576) fun r1 => bif ltB r1 0 then (some true) else (Option.bind (lszLeakedKeyS a1 r1) fun r2 => bif ltB r2 0 then (some true) else (Option.bind (ltoNetwork a0) fun r3 => Option.bind (ltoLeakedKeyS a1) fun r4 => Option.bind (sEavesdrop r3 r4 a2) fun r5 => Option.bind (ltoNetwork a0) fun r6 => Option.bind (ltoLeakedKeyS a1) fun r7 => Option.bind (iEavesdrop r6 r7 a2) fun r8 => Option.bind (leqByteS r8.1 r5.1) fun r9 => Option.bind (bif !r9 then (some true) else (some (!(booB r8.2 r5.2)))) fun (v10 : Bool) => bif v10 then (some false) else (Option.bind (ltoNetwork a0) fun r11 => Option.bind (leqNetwork r6 r11) fun r12 => bif !r12 then (some false) else (Option.bind (ltoLeakedKeyS a1) fun r13 => Option.bind (leqLeakedKeyS r7 r13) fun r14 => bif !r14 then (some false) else (Option.bind (lmarkNetwork_z r6 1) fun r15 => Option.bind (lmarkLeakedKeyS_z r7 r15) fun r16 => Option.bind (bif ltB r16 0 then (some true) else (Option.bind (leqByteS r8.1 r5.1) fun r18 => bif !r18 then (some true) else (some (!(booB r8.2 r5.2))))) fun (v17 : Bool) => bif v17 then (some false) else (Option.bind (lmarkByteS r8.1 1) fun r19 => bif lenEq r19.2 r8.1 then (Option.bind (lheldByteS r19.2 1) fun r20 => bif ltB r20 0 then (some false) else (bif !eqB r20 r19.1 then (some false) else (Option.bind (ltoNetwork a0) fun r21 => Option.bind (ltoLeakedKeyS a1) fun r22 => Option.bind (iEavesdrop r21 r22 a2) fun r23 => Option.bind (leqByteS r23.1 r5.1) fun r24 => Option.bind (bif !r24 then (some true) else (some (!(booB r23.2 r5.2)))) fun (v25 : Bool) => bif v25 then (some false) else (Option.bind (lheldByteS r19.2 1) fun r26 => bif ltB r26 0 then (some false) else (bif !eqB r26 r19.1 then (some false) else (some true)))))) else none))))))
theorem lFnExactEavesdrop_c {a0 : TNetwork} {a1 : List TLeakedKey} {a2 : Int} {r : Bool} (H : lFnExactEavesdrop a0 a1 a2 = some r) : Fn Tryz.prog 4 [.agg (eTNetwork a0), aL (a1.map eTLeakedKey), aI a2] [.c (.d (.b r))] := by
  refine fn_in Tryz.func4 rfl (by kernel_rfl) Tryz.ntmps4 rfl rfl rfl ?_
  refine wkd ?_
  obtain ⟨r1, hr1, H⟩ := ob H
  refine awr_n rfl (ca rfl rfl rfl (lszNetwork_c hr1) trivial rfl rfl rfl rfl) ?_
  refine wkd ?_
  refine awc_cond rfl (fun h => ?_) (fun h => ?_)
  · have H := bt h H
    refine wkd ?_
    cases H
    exact fin_ret (.cons (.tmp rfl) .nil) rfl rfl rfl
  · have H := bf h H
    refine wkd ?_
    obtain ⟨r2, hr2, H⟩ := ob H
    refine awr_n rfl (ca rfl rfl rfl (lszLeakedKeyS_c hr2) trivial rfl rfl rfl rfl) ?_
    refine wkd ?_
    refine awc_cond rfl (fun h => ?_) (fun h => ?_)
    · have H := bt h H
      refine wkd ?_
      cases H
      exact fin_ret (.cons (.tmp rfl) .nil) rfl rfl rfl
    · have H := bf h H
      refine wkd ?_
      obtain ⟨r3, hr3, H⟩ := ob H
      refine awr_step rfl (car rfl rfl rfl (ltoNetwork_c hr3) trivial rfl ⟨by first | rfl | exact lm _, by first | rfl | exact lm _, by first | rfl | exact lm _, by first | rfl | exact lm _, by first | rfl | exact lm _, trivial⟩ rfl rfl) ?_
      refine wkd ?_
      obtain ⟨r4, hr4, H⟩ := ob H
      refine awr_step rfl (car rfl rfl rfl (ltoLeakedKeyS_c hr4) trivial rfl ⟨by first | rfl | exact lm _, trivial⟩ rfl rfl) ?_
      refine wkd ?_
      obtain ⟨r5, hr5, H⟩ := ob H
      refine awr_n rfl (ca rfl rfl rfl (sEavesdrop_c hr5) trivial rfl rfl rfl rfl) ?_
      refine wkd ?_
      obtain ⟨r6, hr6, H⟩ := ob H
      refine awr_step rfl (car rfl rfl rfl (ltoNetwork_c hr6) trivial rfl ⟨by first | rfl | exact lm _, by first | rfl | exact lm _, by first | rfl | exact lm _, by first | rfl | exact lm _, by first | rfl | exact lm _, trivial⟩ rfl rfl) ?_
      refine wkd ?_
      obtain ⟨r7, hr7, H⟩ := ob H
      refine awr_step rfl (car rfl rfl rfl (ltoLeakedKeyS_c hr7) trivial rfl ⟨by first | rfl | exact lm _, trivial⟩ rfl rfl) ?_
      refine wkd ?_
      obtain ⟨r8, hr8, H⟩ := ob H
      refine awr_n rfl (ca rfl rfl rfl (iEavesdrop_c hr8) trivial rfl rfl rfl rfl) ?_
      refine wkd ?_
      obtain ⟨r9, hr9, H⟩ := ob H
      refine awr_n rfl (ca rfl rfl rfl (leqByteS_c hr9) ⟨by first | rfl | exact lm _, trivial⟩ rfl rfl rfl rfl) ?_
      refine wkd ?_
      obtain ⟨v10, Hj, H⟩ := ob H
      refine awr_join ⟨[(1, .v (.c (.d false (.l (a1.map eTLeakedKey))))), (2, tI a2), (3, .v (.c (.p 0 0))), (8, .v (.c (.d true (.l (r5.1.map eU8))))), (9, tB r5.2), (10, .v (.c (.p 4 0))), (11, .v (.c (.r 5 (.l (r7.map eTLeakedKey))))), (12, .v (.c (.w 6 r8.1.length))), (13, tB r8.2), (57, tB v10)], [(0, .var 78 [.d false (.l (a0.Map.Cells.map eTCell)), .d false (.l (a0.Devices.map eTDevice)), .d false (.l (a0.Sessions.map eTSession)), .d false (.l (a0.Accounts.map eTAccount)), .d false (.l (a0.Flights.map eTFlight)), .d false (.i .i64 a0.DownCells), .d false (.i .i64 a0.Core.Size), .d false (.i .i64 a0.Core.UpMask), .d false (.i .i64 a0.Now), .d false (.i .i64 a0.Lost)]), (4, .var 40 [.r 3 (.l (r6.Map.Cells.map eTCell)), .r 3 (.l (r6.Devices.map eTDevice)), .r 3 (.l (r6.Sessions.map eTSession)), .r 3 (.l (r6.Accounts.map eTAccount)), .r 3 (.l (r6.Flights.map eTFlight)), .d false (.i .i64 r6.DownCells), .d false (.i .i64 r6.Core.Size), .d false (.i .i64 r6.Core.UpMask), .d false (.i .i64 r6.Now), .d false (.i .i64 r6.Lost)]), (6, .row 5 1 (r8.1.map eU8) true true)], 7⟩ ?_ ?_
      · have H := Hj
        refine wkd ?_
        refine g2 rfl rfl rfl (fun h => ?_) (fun h => ?_)
        · have H := bt h H
          refine wkd ?_
          cases H
          exact weak_of ⟨rfl, rfl, rfl, rfl, rfl, rfl, rfl, rfl, rfl, rfl, rfl, rfl, rfl, rfl, wn rfl (by first | rfl | simp), rfl, rfl, rfl, rfl, rfl, trivial⟩ ⟨rfl, ⟨rfl, rfl⟩, rfl, ⟨rfl, rfl⟩, rfl, ⟨rfl, rfl⟩, trivial⟩
        · have H := bf h H
          refine wkd ?_
          cases H
          exact weak_of ⟨rfl, rfl, rfl, rfl, rfl, rfl, rfl, rfl, rfl, rfl, rfl, rfl, rfl, rfl, wn rfl (by first | rfl | simp), rfl, rfl, rfl, rfl, rfl, trivial⟩ ⟨rfl, ⟨rfl, rfl⟩, rfl, ⟨rfl, rfl⟩, rfl, ⟨rfl, rfl⟩, trivial⟩
      refine wkd ?_
      refine awc_cond rfl (fun h => ?_) (fun h => ?_)
      · have H := bt h H
        refine wkd ?_
        cases H
        exact fin_ret (.cons (.tmp rfl) .nil) rfl rfl rfl
      · have H := bf h H
        refine wkd ?_
        obtain ⟨r11, hr11, H⟩ := ob H
        refine dr_n rfl (ca rfl rfl rfl (ltoNetwork_c hr11) trivial rfl rfl rfl rfl) ?_
        refine wkd ?_
        obtain ⟨r12, hr12, H⟩ := ob H
        refine dr_n rfl (ca rfl rfl rfl (leqNetwork_c hr12) ⟨by first | rfl | exact lm _, by first | rfl | exact lm _, by first | rfl | exact lm _, by first | rfl | exact lm _, by first | rfl | exact lm _, trivial⟩ rfl rfl rfl rfl) ?_
        refine wkd ?_
        refine awc_cond rfl (fun h => ?_) (fun h => ?_)
        · have H := bt h H
          refine wkd ?_
          cases H
          exact fin_ret (.cons (.tmp rfl) .nil) rfl rfl rfl
        · have H := bf h H
          refine wkd ?_
          obtain ⟨r13, hr13, H⟩ := ob H
          refine awr_step rfl (car rfl rfl rfl (ltoLeakedKeyS_c hr13) trivial rfl ⟨by first | rfl | exact lm _, trivial⟩ rfl rfl) ?_
          refine wkd ?_
          obtain ⟨r14, hr14, H⟩ := ob H
          refine awr_n rfl (ca rfl rfl rfl (leqLeakedKeyS_c hr14) trivial rfl rfl rfl rfl) ?_
          refine wkd ?_
          refine awc_cond rfl (fun h => ?_) (fun h => ?_)
          · have H := bt h H
            refine wkd ?_
            cases H
            exact fin_ret (.cons (.tmp rfl) .nil) rfl rfl rfl
          · have H := bf h H
            refine wkd ?_
            obtain ⟨r15, hr15, H⟩ := ob H
            refine awr_weak (weak_fg (l := 3)) ?_
            refine awr_step rfl (cm (l := 3) rfl rfl (lmarkNetwork_z_c hr15) rfl rfl rfl) ?_
            refine wkd ?_
            obtain ⟨r16, hr16, H⟩ := ob H
            refine awr_step rfl (cm (l := 5) rfl rfl (lmarkLeakedKeyS_z_c hr16) rfl rfl rfl) ?_
            refine wkd ?_
            obtain ⟨v17, Hj, H⟩ := ob H
            refine awr_join ⟨[(1, .v (.c (.d false (.l (a1.map eTLeakedKey))))), (2, tI a2), (3, .v (.c (.p 0 0))), (8, .v (.c (.d true (.l (r5.1.map eU8))))), (9, tB r5.2), (12, .v (.c (.w 6 r8.1.length))), (86, tB v17)], [(0, .var 78 [.d false (.l (a0.Map.Cells.map eTCell)), .d false (.l (a0.Devices.map eTDevice)), .d false (.l (a0.Sessions.map eTSession)), .d false (.l (a0.Accounts.map eTAccount)), .d false (.l (a0.Flights.map eTFlight)), .d false (.i .i64 a0.DownCells), .d false (.i .i64 a0.Core.Size), .d false (.i .i64 a0.Core.UpMask), .d false (.i .i64 a0.Now), .d false (.i .i64 a0.Lost)]), (6, .row 5 1 (r8.1.map eU8) true true)], 7⟩ ?_ ?_
            · have H := Hj
              refine wkd ?_
              refine g2 rfl rfl rfl (fun h => ?_) (fun h => ?_)
              · have H := bt h H
                refine wkd ?_
                cases H
                exact weak_of ⟨rfl, rfl, rfl, rfl, rfl, rfl, rfl, rfl, rfl, rfl, wn rfl (by first | rfl | simp), rfl, rfl, rfl, trivial⟩ ⟨rfl, ⟨rfl, rfl⟩, rfl, ⟨rfl, rfl⟩, trivial⟩
              · have H := bf h H
                refine wkd ?_
                obtain ⟨r18, hr18, H⟩ := ob H
                refine awr_ng rfl rfl rfl rfl (ca rfl rfl rfl (leqByteS_c hr18) ⟨by first | rfl | exact lm _, trivial⟩ rfl rfl rfl rfl) ?_
                refine wkd ?_
                refine g2 rfl rfl rfl (fun h => ?_) (fun h => ?_)
                · have H := bt h H
                  refine wkd ?_
                  cases H
                  exact weak_of ⟨rfl, rfl, rfl, rfl, rfl, rfl, rfl, rfl, rfl, rfl, wn rfl (by first | rfl | simp), rfl, rfl, rfl, trivial⟩ ⟨rfl, ⟨rfl, rfl⟩, rfl, ⟨rfl, rfl⟩, trivial⟩
                · have H := bf h H
                  refine wkd ?_
                  cases H
                  exact weak_of ⟨rfl, rfl, rfl, rfl, rfl, rfl, rfl, rfl, rfl, rfl, wn rfl (by first | rfl | simp), rfl, rfl, rfl, trivial⟩ ⟨rfl, ⟨rfl, rfl⟩, rfl, ⟨rfl, rfl⟩, trivial⟩
            refine wkd ?_
            refine awc_cond rfl (fun h => ?_) (fun h => ?_)
            · have H := bt h H
              refine wkd ?_
              cases H
              exact fin_ret (.cons (.tmp rfl) .nil) rfl rfl rfl
            · have H := bf h H
              refine wkd ?_
              obtain ⟨r19, hr19, H⟩ := ob H
              obtain ⟨hl, H⟩ := rq H
              refine awr_step rfl (cw (o := 6) (lmarkByteS_c hr19) rfl rfl rfl rfl rfl rfl trivial rfl rfl rfl rfl) ?_
              refine awr_weak (weak_flat (enc := eU8) (o := 6) rfl (fun _ => rfl)) ?_
              refine awr_weak (weak_wnB (o := 6) (n := r19.2.length) rfl rfl (by repeat (first | exact trivial | refine ⟨leqE hl, ?_⟩ | refine ⟨rfl, ?_⟩)) (by repeat (first | exact trivial | refine ⟨leqE hl, ?_⟩ | refine ⟨rfl, ?_⟩))) ?_
              refine wkd ?_
              obtain ⟨r20, hr20, H⟩ := ob H
              refine awr_n rfl (ca rfl rfl rfl (lheldByteS_c hr20) ⟨by first | rfl | exact lm _, trivial⟩ rfl rfl rfl rfl) ?_
              refine wkd ?_
              refine awc_cond rfl (fun h => ?_) (fun h => ?_)
              · have H := bt h H
                refine wkd ?_
                cases H
                exact fin_ret (.cons (.tmp rfl) .nil) rfl rfl rfl
              · have H := bf h H
                refine wkd ?_
                refine awc_cond rfl (fun h => ?_) (fun h => ?_)
                · have H := bt h H
                  refine wkd ?_
                  cases H
                  exact fin_ret (.cons (.tmp rfl) .nil) rfl rfl rfl
                · have H := bf h H
                  refine wkd ?_
                  obtain ⟨r21, hr21, H⟩ := ob H
                  refine awr_step rfl (car rfl rfl rfl (ltoNetwork_c hr21) trivial rfl ⟨by first | rfl | exact lm _, by first | rfl | exact lm _, by first | rfl | exact lm _, by first | rfl | exact lm _, by first | rfl | exact lm _, trivial⟩ rfl rfl) ?_
                  refine wkd ?_
                  obtain ⟨r22, hr22, H⟩ := ob H
                  refine awr_step rfl (car rfl rfl rfl (ltoLeakedKeyS_c hr22) trivial rfl ⟨by first | rfl | exact lm _, trivial⟩ rfl rfl) ?_
                  refine wkd ?_
                  obtain ⟨r23, hr23, H⟩ := ob H
                  refine awr_n rfl (ca rfl rfl rfl (iEavesdrop_c hr23) trivial rfl rfl rfl rfl) ?_
                  refine wkd ?_
                  obtain ⟨r24, hr24, H⟩ := ob H
                  refine awr_n rfl (ca rfl rfl rfl (leqByteS_c hr24) ⟨by first | rfl | exact lm _, trivial⟩ rfl rfl rfl rfl) ?_
                  refine wkd ?_
                  obtain ⟨v25, Hj, H⟩ := ob H
                  refine awr_join ⟨[(12, .v (.c (.w 6 r19.2.length))), (15, tI r19.1), (115, tB v25)], [(6, .row 5 1 (r19.2.map eU8) true true)], 7⟩ ?_ ?_
                  · have H := Hj
                    refine wkd ?_
                    refine g2 rfl rfl rfl (fun h => ?_) (fun h => ?_)
                    · have H := bt h H
                      refine wkd ?_
                      cases H
                      exact weak_of ⟨wn rfl (by first | rfl | simp), rfl, rfl, rfl, rfl, rfl, trivial⟩ ⟨rfl, ⟨rfl, rfl⟩, trivial⟩
                    · have H := bf h H
                      refine wkd ?_
                      cases H
                      exact weak_of ⟨wn rfl (by first | rfl | simp), rfl, rfl, rfl, rfl, rfl, trivial⟩ ⟨rfl, ⟨rfl, rfl⟩, trivial⟩
                  refine wkd ?_
                  refine awc_cond rfl (fun h => ?_) (fun h => ?_)
                  · have H := bt h H
                    refine wkd ?_
                    cases H
                    exact fin_ret (.cons (.tmp rfl) .nil) rfl rfl rfl
                  · have H := bf h H
                    refine wkd ?_
                    obtain ⟨r26, hr26, H⟩ := ob H
                    refine awr_n rfl (ca rfl rfl rfl (lheldByteS_c hr26) ⟨by first | rfl | exact lm _, trivial⟩ rfl rfl rfl rfl) ?_
                    refine wkd ?_
                    refine awc_cond rfl (fun h => ?_) (fun h => ?_)
                    · have H := bt h H
                      refine wkd ?_
                      cases H
                      exact fin_ret (.cons (.tmp rfl) .nil) rfl rfl rfl
                    · have H := bf h H
                      refine wkd ?_
                      refine awc_cond rfl (fun h => ?_) (fun h => ?_)
                      · have H := bt h H
                        refine wkd ?_
                        cases H
                        exact fin_ret (.cons (.tmp rfl) .nil) rfl rfl rfl
                      · have H := bf h H
                        refine wkd ?_
                        cases H
                        exact fin_ret (.cons (.tmp rfl) .nil) rfl rfl rfl
end Go.AM
