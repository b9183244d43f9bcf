/-
  Own text: a part of the abstract machine for this seat (Hcl). No statement is proved here.
-/
import Derived.Test.YtnhgchfpccpcdaaHcs
import Derived.Test.YtnhgchfpccpcdaaHcm
set_option linter.unusedVariables false
namespace Go.AM
open Go.Proofs
attribute [local irreducible] AWN NS AWO AWR AWC DR Weak iterQ
set_option maxRecDepth 100000
set_option maxHeartbeats 4000000
def lFnExactRegisterRoaming (a0 : List TRegistration) (a1 : TSubscription) (a2 : List TRoamingAgreement) (a3 : TSubscriberID) (a4 : Int) (a5 : Int) (a6 : Int) : Option Bool :=
  Option.bind (lszRegistrationS a0 1048576) fun r1 => bif ltB r1 0 then (some true) else (Option.bind (lszSubscription a1 r1) fun r2 => bif ltB r2 0 then (some true) else (Option.bind (lszRoamingAgreementS a2 r2) fun r3 => bif ltB r3 0 then (some true) else (Option.bind (ltoRegistrationS a0) fun r4 => Option.bind (ltoSubscription a1) fun r5 => Option.bind (ltoRoamingAgreementS a2) fun r6 => Option.bind (ltoSubscriberID a3) fun r7 => Option.bind (sRegisterRoaming r4 r5 r6 r7 a4 a5 a6) fun r8 => Option.bind (ltoRegistrationS a0) fun r9 => Option.bind (ltoSubscription a1) fun r10 => Option.bind (ltoRoamingAgreementS a2) fun r11 => Option.bind (ltoSubscriberID a3) fun r12 => Option.bind (iRegisterRoaming r9 r10 r11 r12 a4 a5 a6) fun r13 => Option.bind (leqRoamingResult r13 r8) fun r14 => bif !r14 then (some false) else (Option.bind (ltoRegistrationS a0) fun r15 => Option.bind (leqRegistrationS r9 r15) fun r16 => bif !r16 then (some false) else (Option.bind (ltoSubscription a1) fun r17 => Option.bind (leqSubscription r10 r17) fun r18 => bif !r18 then (some false) else (Option.bind (ltoRoamingAgreementS a2) fun r19 => Option.bind (leqRoamingAgreementS r11 r19) fun r20 => bif !r20 then (some false) else (Option.bind (lmarkRegistrationS_z r9 1) fun r21 => Option.bind (lmarkSubscription_z r10 r21) fun r22 => Option.bind (lmarkRoamingAgreementS_z r11 r22) fun r23 => Option.bind (bif ltB r23 0 then (some true) else (Option.bind (leqRoamingResult r13 r8) fun r25 => some (!r25))) fun (v24 : Bool) => bif v24 then (some false) else (Option.bind (lmarkRoamingResult r13 1) fun r26 => bif lenEq r26.2 r13.Registrations then (Option.bind (lheldRoamingResult (⟨r13.Code, r26.2, r13.Cancelled, r13.TempID⟩ : TRoamingResult) 1) fun r27 => bif ltB r27 0 then (some false) else (bif !eqB r27 r26.1 then (some false) else (Option.bind (ltoRegistrationS a0) fun r28 => Option.bind (ltoSubscription a1) fun r29 => Option.bind (ltoRoamingAgreementS a2) fun r30 => Option.bind (ltoSubscriberID a3) fun r31 => Option.bind (iRegisterRoaming r28 r29 r30 r31 a4 a5 a6) fun r32 => Option.bind (leqRoamingResult r32 r8) fun r33 => bif !r33 then (some false) else (Option.bind (lheldRoamingResult (⟨r13.Code, r26.2, r13.Cancelled, r13.TempID⟩ : TRoamingResult) 1) fun r34 => bif ltB r34 0 then (some false) else (bif !eqB r34 r26.1 then (some false) else (some true)))))) else none))))))))
theorem lFnExactRegisterRoaming_c {a0 : List TRegistration} {a1 : TSubscription} {a2 : List TRoamingAgreement} {a3 : TSubscriberID} {a4 : Int} {a5 : Int} {a6 : Int} {r : Bool} (H : lFnExactRegisterRoaming a0 a1 a2 a3 a4 a5 a6 = some r) : Fn Try.prog 10 [aL (a0.map eTRegistration), .agg (eTSubscription a1), aL (a2.map eTRoamingAgreement), .agg (eTSubscriberID a3), aI a4, aI a5, aI a6] [.c (.d (.b r))] := by
  refine fn_in Try.func10 rfl (by kernel_rfl) Try.ntmps10 rfl rfl rfl ?_
  refine wkz ?_
  obtain ⟨r1, hr1, H⟩ := ob H
  refine awr_n rfl (ca rfl rfl rfl (lszRegistrationS_c hr1) trivial rfl rfl rfl rfl) ?_
  refine wkz ?_
  refine awc_cond rfl (fun h => ?_) (fun h => ?_)
  · have H := bt h H
    refine wkz ?_
    cases H
    exact fin_ret (.cons (.tmp rfl) .nil) rfl rfl rfl
  · have H := bf h H
    refine wkz ?_
    obtain ⟨r2, hr2, H⟩ := ob H
    refine awr_n rfl (ca rfl rfl rfl (lszSubscription_c hr2) trivial rfl rfl rfl rfl) ?_
    refine wkz ?_
    refine awc_cond rfl (fun h => ?_) (fun h => ?_)
    · have H := bt h H
      refine wkz ?_
      cases H
      exact fin_ret (.cons (.tmp rfl) .nil) rfl rfl rfl
    · have H := bf h H
      refine wkz ?_
      obtain ⟨r3, hr3, H⟩ := ob H
      refine awr_n rfl (ca rfl rfl rfl (lszRoamingAgreementS_c hr3) trivial rfl rfl rfl rfl) ?_
      refine wkz ?_
      refine awc_cond rfl (fun h => ?_) (fun h => ?_)
      · have H := bt h H
        refine wkz ?_
        cases H
        exact fin_ret (.cons (.tmp rfl) .nil) rfl rfl rfl
      · have H := bf h H
        refine wkz ?_
        refine awc_dz [0, 1, 2, 3, 4, 5, 6, 7, 8, 9, 10, 11, 12, 13] Try.follows (by kernel_rfl) (by kernel_rfl) rfl ?_
        refine wkz ?_
        obtain ⟨r4, hr4, H⟩ := ob H
        refine dz_n rfl (ca rfl rfl rfl (ltoRegistrationS_c hr4) trivial rfl rfl rfl rfl) ?_
        refine wkz ?_
        obtain ⟨r5, hr5, H⟩ := ob H
        refine dz_n rfl (ca rfl rfl rfl (ltoSubscription_c hr5) trivial rfl rfl rfl rfl) ?_
        refine wkz ?_
        obtain ⟨r6, hr6, H⟩ := ob H
        refine dz_n rfl (ca rfl rfl rfl (ltoRoamingAgreementS_c hr6) trivial rfl rfl rfl rfl) ?_
        refine wkz ?_
        obtain ⟨r7, hr7, H⟩ := ob H
        refine dz_n rfl (ca rfl rfl rfl (ltoSubscriberID_c hr7) trivial rfl rfl rfl rfl) ?_
        refine wkz ?_
        obtain ⟨r8, hr8, H⟩ := ob H
        refine dz_n rfl (ca rfl rfl rfl (sRegisterRoaming_c hr8) ⟨by first | rfl | exact lm _, by first | rfl | exact lm _, by first | rfl | exact lm _, trivial⟩ rfl rfl rfl rfl) ?_
        refine wkz ?_
        refine dz_w rfl (spx 100010 rfl rfl rfl rfl rfl rfl rfl rfl) ?_
        refine wkz ?_
        obtain ⟨r9, hr9, H⟩ := ob H
        refine awr_step rfl (car rfl rfl rfl (ltoRegistrationS_c hr9) trivial rfl ⟨by first | rfl | exact lm _, trivial⟩ rfl rfl) ?_
        refine wkz ?_
        obtain ⟨r10, hr10, H⟩ := ob H
        refine awr_step rfl (car rfl rfl rfl (ltoSubscription_c hr10) trivial rfl ⟨by first | rfl | exact lm _, trivial⟩ rfl rfl) ?_
        refine wkz ?_
        obtain ⟨r11, hr11, H⟩ := ob H
        refine awr_step rfl (car rfl rfl rfl (ltoRoamingAgreementS_c hr11) trivial rfl ⟨by first | rfl | exact lm _, trivial⟩ rfl rfl) ?_
        refine wkz ?_
        refine awc_dz [0, 1, 2, 3, 4, 5, 6, 7, 8, 9, 10] Try.follows (by kernel_rfl) (by kernel_rfl) rfl ?_
        refine wkz ?_
        obtain ⟨r12, hr12, H⟩ := ob H
        refine dz_n rfl (ca rfl rfl rfl (ltoSubscriberID_c hr12) trivial rfl rfl rfl rfl) ?_
        refine wkz ?_
        obtain ⟨r13, hr13, H⟩ := ob H
        refine dz_n rfl (ca rfl rfl rfl (iRegisterRoaming_c hr13) trivial rfl rfl rfl rfl) ?_
        refine wkz ?_
        refine dz_w rfl (spx 100009 rfl rfl rfl rfl rfl rfl rfl rfl) ?_
        refine wkz ?_
        obtain ⟨r14, hr14, H⟩ := ob H
        refine awr_n rfl (ca rfl rfl rfl (leqRoamingResult_c hr14) ⟨by first | rfl | exact lm _, by first | rfl | exact lm _, trivial⟩ rfl rfl rfl rfl) ?_
        refine wkz ?_
        refine awc_cond rfl (fun h => ?_) (fun h => ?_)
        · have H := bt h H
          refine wkz ?_
          cases H
          exact fin_ret (.cons (.tmp rfl) .nil) rfl rfl rfl
        · have H := bf h H
          refine wkz ?_
          obtain ⟨r15, hr15, H⟩ := ob H
          refine awr_step rfl (car rfl rfl rfl (ltoRegistrationS_c hr15) trivial rfl ⟨by first | rfl | exact lm _, trivial⟩ rfl rfl) ?_
          refine wkz ?_
          obtain ⟨r16, hr16, H⟩ := ob H
          refine awr_n rfl (ca rfl rfl rfl (leqRegistrationS_c hr16) trivial rfl rfl rfl rfl) ?_
          refine wkz ?_
          refine awc_cond rfl (fun h => ?_) (fun h => ?_)
          · have H := bt h H
            refine wkz ?_
            cases H
            exact fin_ret (.cons (.tmp rfl) .nil) rfl rfl rfl
          · have H := bf h H
            refine wkz ?_
            refine awc_dz [0, 1, 2, 3, 4] Try.follows (by kernel_rfl) (by kernel_rfl) rfl ?_
            refine wkz ?_
            obtain ⟨r17, hr17, H⟩ := ob H
            refine dz_n rfl (ca rfl rfl rfl (ltoSubscription_c hr17) trivial rfl rfl rfl rfl) ?_
            refine wkz ?_
            obtain ⟨r18, hr18, H⟩ := ob H
            refine dz_n rfl (ca rfl rfl rfl (leqSubscription_c hr18) ⟨by first | rfl | exact lm _, trivial⟩ rfl rfl rfl rfl) ?_
            refine wkz ?_
            refine awc_cond rfl (fun h => ?_) (fun h => ?_)
            · have H := bt h H
              refine wkz ?_
              cases H
              exact fin_ret (.cons (.tmp rfl) .nil) rfl rfl rfl
            · have H := bf h H
              refine wkz ?_
              obtain ⟨r19, hr19, H⟩ := ob H
              refine awr_step rfl (car rfl rfl rfl (ltoRoamingAgreementS_c hr19) trivial rfl ⟨by first | rfl | exact lm _, trivial⟩ rfl rfl) ?_
              refine wkz ?_
              obtain ⟨r20, hr20, H⟩ := ob H
              refine awr_n rfl (ca rfl rfl rfl (leqRoamingAgreementS_c hr20) trivial rfl rfl rfl rfl) ?_
              refine wkz ?_
              refine awc_cond rfl (fun h => ?_) (fun h => ?_)
              · have H := bt h H
                refine wkz ?_
                cases H
                exact fin_ret (.cons (.tmp rfl) .nil) rfl rfl rfl
              · have H := bf h H
                refine wkz ?_
                obtain ⟨r21, hr21, H⟩ := ob H
                refine awr_step rfl (cm (l := 7) rfl rfl (lmarkRegistrationS_z_c hr21) rfl rfl rfl) ?_
                refine wkz ?_
                obtain ⟨r22, hr22, H⟩ := ob H
                refine awr_weak (weak_fg (l := 8)) ?_
                refine awr_step rfl (cm (l := 8) rfl rfl (lmarkSubscription_z_c hr22) rfl rfl rfl) ?_
                refine wkz ?_
                obtain ⟨r23, hr23, H⟩ := ob H
                refine awr_step rfl (cm (l := 10) rfl rfl (lmarkRoamingAgreementS_z_c hr23) rfl rfl rfl) ?_
                refine wkz ?_
                obtain ⟨v24, Hj, H⟩ := ob H
                refine awr_join ⟨[(0, .v (.c (.d false (.l (a0.map eTRegistration))))), (2, .v (.c (.d false (.l (a2.map eTRoamingAgreement))))), (4, tI a4), (5, tI a5), (6, tI a6), (8, .v (.c (.p 0 0))), (10, .v (.c (.p 1 0))), (16, .v (.c (.p 6 0))), (20, .v (.c (.p 12 0))), (102, tB v24)], [(0, .var 100 [.d false (.i .i64 a1.RateLimit), .d false (.i .i64 a1.BestClass), .d false (.i .i64 a1.GrantSize), .d false (.l (a1.RoamingNetworks.map eI))]), (1, .var 101 [.d false (.i .i64 a3.Network), .d false (.i .i64 a3.Number)]), (5, .row 44 6 (r8.Registrations.map eTRegistration) true true), (6, .var 77 [.d false (.i .i64 r8.Code), .w 5 r8.Registrations.length, .d false (.i .i64 r8.Cancelled), .d false (.i .i64 r8.TempID.Pool), .d false (.i .i64 r8.TempID.Number)]), (11, .row 44 6 (r13.Registrations.map eTRegistration) true true), (12, .var 77 [.d false (.i .i64 r13.Code), .w 11 r13.Registrations.length, .d false (.i .i64 r13.Cancelled), .d false (.i .i64 r13.TempID.Pool), .d false (.i .i64 r13.TempID.Number)])], 13⟩ ?_ ?_
                · have H := Hj
                  refine wkz ?_
                  refine g2 rfl rfl rfl (fun h => ?_) (fun h => ?_)
                  · have H := bt h H
                    refine wkz ?_
                    cases H
                    exact weak_of ⟨rfl, rfl, rfl, rfl, rfl, rfl, rfl, rfl, rfl, rfl, rfl, rfl, rfl, rfl, rfl, rfl, rfl, rfl, rfl, rfl, trivial⟩ ⟨rfl, ⟨rfl, rfl⟩, rfl, ⟨rfl, rfl⟩, rfl, ⟨rfl, rfl⟩, rfl, ⟨rfl, rfl⟩, rfl, ⟨rfl, rfl⟩, rfl, ⟨rfl, rfl⟩, trivial⟩
                  · have H := bf h H
                    refine wkz ?_
                    obtain ⟨r25, hr25, H⟩ := ob H
                    refine awr_ng rfl rfl rfl rfl (ca rfl rfl rfl (leqRoamingResult_c hr25) ⟨by first | rfl | exact lm _, by first | rfl | exact lm _, trivial⟩ rfl rfl rfl rfl) ?_
                    refine wkz ?_
                    cases H
                    exact weak_of ⟨rfl, rfl, rfl, rfl, rfl, rfl, rfl, rfl, rfl, rfl, rfl, rfl, rfl, rfl, rfl, rfl, rfl, rfl, rfl, rfl, trivial⟩ ⟨rfl, ⟨rfl, rfl⟩, rfl, ⟨rfl, rfl⟩, rfl, ⟨rfl, rfl⟩, rfl, ⟨rfl, rfl⟩, rfl, ⟨rfl, rfl⟩, rfl, ⟨rfl, rfl⟩, trivial⟩
                refine wkz ?_
                refine awc_cond rfl (fun h => ?_) (fun h => ?_)
                · have H := bt h H
                  refine wkz ?_
                  cases H
                  exact fin_ret (.cons (.tmp rfl) .nil) rfl rfl rfl
                · have H := bf h H
                  refine wkz ?_
                  obtain ⟨r26, hr26, H⟩ := ob H
                  obtain ⟨hl, H⟩ := rq H
                  refine awr_step rfl (cw (o := 11) (lmarkRoamingResult_c hr26) rfl rfl rfl rfl rfl rfl trivial rfl rfl rfl rfl) ?_
                  refine awr_weak (weak_flat (enc := eTRegistration) (o := 11) rfl (fun _ => rfl)) ?_
                  refine awr_weak (weak_wnB (o := 11) (n := r26.2.length) rfl rfl (by repeat (first | exact trivial | refine ⟨leqE hl, ?_⟩ | refine ⟨rfl, ?_⟩)) (by repeat (first | exact trivial | refine ⟨leqE hl, ?_⟩ | refine ⟨rfl, ?_⟩))) ?_
                  refine wkz ?_
                  obtain ⟨r27, hr27, H⟩ := ob H
                  refine awr_n rfl (ca rfl rfl rfl (lheldRoamingResult_c hr27) ⟨by first | rfl | exact lm _, trivial⟩ rfl rfl rfl rfl) ?_
                  refine wkz ?_
                  refine awc_cond rfl (fun h => ?_) (fun h => ?_)
                  · have H := bt h H
                    refine wkz ?_
                    cases H
                    exact fin_ret (.cons (.tmp rfl) .nil) rfl rfl rfl
                  · have H := bf h H
                    refine wkz ?_
                    refine awc_cond rfl (fun h => ?_) (fun h => ?_)
                    · have H := bt h H
                      refine wkz ?_
                      cases H
                      exact fin_ret (.cons (.tmp rfl) .nil) rfl rfl rfl
                    · have H := bf h H
                      refine wkz ?_
                      refine awc_dz [0, 1, 2, 3, 4, 5, 6, 7, 8, 9, 10, 11, 12, 13] Try.follows (by kernel_rfl) (by kernel_rfl) rfl ?_
                      refine wkz ?_
                      obtain ⟨r28, hr28, H⟩ := ob H
                      refine dz_n rfl (ca rfl rfl rfl (ltoRegistrationS_c hr28) trivial rfl rfl rfl rfl) ?_
                      refine wkz ?_
                      obtain ⟨r29, hr29, H⟩ := ob H
                      refine dz_n rfl (ca rfl rfl rfl (ltoSubscription_c hr29) trivial rfl rfl rfl rfl) ?_
                      refine wkz ?_
                      obtain ⟨r30, hr30, H⟩ := ob H
                      refine dz_n rfl (ca rfl rfl rfl (ltoRoamingAgreementS_c hr30) trivial rfl rfl rfl rfl) ?_
                      refine wkz ?_
                      obtain ⟨r31, hr31, H⟩ := ob H
                      refine dz_n rfl (ca rfl rfl rfl (ltoSubscriberID_c hr31) trivial rfl rfl rfl rfl) ?_
                      refine wkz ?_
                      obtain ⟨r32, hr32, H⟩ := ob H
                      refine dz_n rfl (ca rfl rfl rfl (iRegisterRoaming_c hr32) ⟨by first | rfl | exact lm _, by first | rfl | exact lm _, by first | rfl | exact lm _, trivial⟩ rfl rfl rfl rfl) ?_
                      refine wkz ?_
                      refine dz_w rfl (spx 100008 rfl rfl rfl rfl rfl rfl rfl rfl) ?_
                      refine wkz ?_
                      obtain ⟨r33, hr33, H⟩ := ob H
                      refine awr_n rfl (ca rfl rfl rfl (leqRoamingResult_c hr33) ⟨by first | rfl | exact lm _, by first | rfl | exact lm _, trivial⟩ rfl rfl rfl rfl) ?_
                      refine wkz ?_
                      refine awc_cond rfl (fun h => ?_) (fun h => ?_)
                      · have H := bt h H
                        refine wkz ?_
                        cases H
                        exact fin_ret (.cons (.tmp rfl) .nil) rfl rfl rfl
                      · have H := bf h H
                        refine wkz ?_
                        obtain ⟨r34, hr34, H⟩ := ob H
                        refine awr_n rfl (ca rfl rfl rfl (lheldRoamingResult_c hr34) ⟨by first | rfl | exact lm _, trivial⟩ rfl rfl rfl rfl) ?_
                        refine wkz ?_
                        refine awc_cond rfl (fun h => ?_) (fun h => ?_)
                        · have H := bt h H
                          refine wkz ?_
                          cases H
                          exact fin_ret (.cons (.tmp rfl) .nil) rfl rfl rfl
                        · have H := bf h H
                          refine wkz ?_
                          refine awc_cond rfl (fun h => ?_) (fun h => ?_)
                          · have H := bt h H
                            refine wkz ?_
                            cases H
                            exact fin_ret (.cons (.tmp rfl) .nil) rfl rfl rfl
                          · have H := bf h H
                            refine wkz ?_
                            cases H
                            exact fin_ret (.cons (.tmp rfl) .nil) rfl rfl rfl
end Go.AM
