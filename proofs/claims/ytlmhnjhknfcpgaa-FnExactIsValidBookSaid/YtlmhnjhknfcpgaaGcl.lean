/-
  Own text: a part of the abstract machine for this seat (Gcl). No statement is proved here.
-/
import Derived.Test.YtlmhnjhknfcpgaaGcs
import Derived.Test.YtlmhnjhknfcpgaaGcm
set_option linter.unusedVariables false
namespace Go.AM
open Go.Proofs
attribute [local irreducible] AWN NS AWO AWR AWC DR Weak iterQ
set_option maxRecDepth 100000
set_option maxHeartbeats 4000000
def lFnExactCanForgeSignals (a0 : List TLeakedKey) (a1 : Int) : Option Bool :=
  Option.bind (lszLeakedKeyS a0 1048576) fun r1 => bif ltB r1 0 then (some true) else (Option.bind (ltoLeakedKeyS a0) fun r2 => Option.bind (sCanForgeSignals r2 a1) fun r3 => Option.bind (ltoLeakedKeyS a0) fun r4 => Option.bind (iCanForgeSignals r4 a1) fun r5 => bif !(booB r5 r3) then (some false) else (Option.bind (ltoLeakedKeyS a0) fun r6 => Option.bind (leqLeakedKeyS r4 r6) fun r7 => bif !r7 then (some false) else (some true)))
theorem lFnExactCanForgeSignals_c {a0 : List TLeakedKey} {a1 : Int} {r : Bool} (H : lFnExactCanForgeSignals a0 a1 = some r) : Fn Try.prog 6 [aL (a0.map eTLeakedKey), aI a1] [.c (.d (.b r))] := by
  refine fn_in Try.func6 rfl (by kernel_rfl) Try.ntmps6 rfl rfl rfl ?_
  refine wk ?_
  obtain ⟨r1, hr1, H⟩ := ob H
  refine awr_n rfl (ca rfl rfl rfl (lszLeakedKeyS_c hr1) trivial rfl rfl rfl rfl) ?_
  refine wk ?_
  refine awc_cond rfl (fun h => ?_) (fun h => ?_)
  · have H := bt h H
    refine wk ?_
    cases H
    exact fin_ret (.cons (.tmp rfl) .nil) rfl rfl rfl
  · have H := bf h H
    refine wk ?_
    obtain ⟨r2, hr2, H⟩ := ob H
    refine awr_n rfl (ca rfl rfl rfl (ltoLeakedKeyS_c hr2) trivial rfl rfl rfl rfl) ?_
    refine wk ?_
    obtain ⟨r3, hr3, H⟩ := ob H
    refine awr_n rfl (ca rfl rfl rfl (sCanForgeSignals_c hr3) ⟨by first | rfl | exact lm _, trivial⟩ rfl rfl rfl rfl) ?_
    refine wk ?_
    obtain ⟨r4, hr4, H⟩ := ob H
    refine awr_n rfl (ca rfl rfl rfl (ltoLeakedKeyS_c hr4) trivial rfl rfl rfl rfl) ?_
    refine wk ?_
    obtain ⟨r5, hr5, H⟩ := ob H
    refine awr_n rfl (ca rfl rfl rfl (iCanForgeSignals_c hr5) ⟨by first | rfl | exact lm _, trivial⟩ rfl rfl rfl rfl) ?_
    refine wk ?_
    refine awc_cond rfl (fun h => ?_) (fun h => ?_)
    · have H := bt h H
      refine wk ?_
      cases H
      exact fin_ret (.cons (.tmp rfl) .nil) rfl rfl rfl
    · have H := bf h H
      refine wk ?_
      obtain ⟨r6, hr6, H⟩ := ob H
      refine awr_n rfl (ca rfl rfl rfl (ltoLeakedKeyS_c hr6) trivial rfl rfl rfl rfl) ?_
      refine wk ?_
      obtain ⟨r7, hr7, H⟩ := ob H
      refine awr_n rfl (ca rfl rfl rfl (leqLeakedKeyS_c hr7) ⟨by first | rfl | exact lm _, by first | rfl | exact lm _, trivial⟩ rfl rfl rfl rfl) ?_
      refine wk ?_
      refine awc_cond rfl (fun h => ?_) (fun h => ?_)
      · have H := bt h H
        refine wk ?_
        cases H
        exact fin_ret (.cons (.tmp rfl) .nil) rfl rfl rfl
      · have H := bf h H
        refine wk ?_
        cases H
        exact fin_ret (.cons (.tmp rfl) .nil) rfl rfl rfl
def lFnExactCheckRoaming (a0 : TSubscription) (a1 : List TRoamingAgreement) (a2 : TSubscriberID) (a3 : Int) : Option Bool :=
  Option.bind (lszSubscription a0 1048576) fun r1 => bif ltB r1 0 then (some true) else (Option.bind (lszRoamingAgreementS a1 r1) fun r2 => bif ltB r2 0 then (some true) else (Option.bind (ltoSubscription a0) fun r3 => Option.bind (ltoRoamingAgreementS a1) fun r4 => Option.bind (ltoSubscriberID a2) fun r5 => Option.bind (sCheckRoaming r3 r4 r5 a3) fun r6 => Option.bind (ltoSubscription a0) fun r7 => Option.bind (ltoRoamingAgreementS a1) fun r8 => Option.bind (ltoSubscriberID a2) fun r9 => Option.bind (iCheckRoaming r7 r8 r9 a3) fun r10 => bif !eqB r10 r6 then (some false) else (Option.bind (ltoSubscription a0) fun r11 => Option.bind (leqSubscription r7 r11) fun r12 => bif !r12 then (some false) else (Option.bind (ltoRoamingAgreementS a1) fun r13 => Option.bind (leqRoamingAgreementS r8 r13) fun r14 => bif !r14 then (some false) else (some true)))))
theorem lFnExactCheckRoaming_c {a0 : TSubscription} {a1 : List TRoamingAgreement} {a2 : TSubscriberID} {a3 : Int} {r : Bool} (H : lFnExactCheckRoaming a0 a1 a2 a3 = some r) : Fn Try.prog 10 [.agg (eTSubscription a0), aL (a1.map eTRoamingAgreement), .agg (eTSubscriberID a2), aI a3] [.c (.d (.b r))] := by
  refine fn_in Try.func10 rfl (by kernel_rfl) Try.ntmps10 rfl rfl rfl ?_
  refine wkd ?_
  obtain ⟨r1, hr1, H⟩ := ob H
  refine awr_n rfl (ca rfl rfl rfl (lszSubscription_c hr1) trivial rfl rfl rfl rfl) ?_
  refine wkd ?_
  refine awc_cond rfl (fun h => ?_) (fun h => ?_)
  · have H := bt h H
    refine wkd ?_
    cases H
    exact fin_ret (.cons (.tmp rfl) .nil) rfl rfl rfl
  · have H := bf h H
    refine wkd ?_
    obtain ⟨r2, hr2, H⟩ := ob H
    refine awr_n rfl (ca rfl rfl rfl (lszRoamingAgreementS_c hr2) trivial rfl rfl rfl rfl) ?_
    refine wkd ?_
    refine awc_cond rfl (fun h => ?_) (fun h => ?_)
    · have H := bt h H
      refine wkd ?_
      cases H
      exact fin_ret (.cons (.tmp rfl) .nil) rfl rfl rfl
    · have H := bf h H
      refine wkd ?_
      obtain ⟨r3, hr3, H⟩ := ob H
      refine dr_n rfl (ca rfl rfl rfl (ltoSubscription_c hr3) trivial rfl rfl rfl rfl) ?_
      refine wkd ?_
      obtain ⟨r4, hr4, H⟩ := ob H
      refine dr_n rfl (ca rfl rfl rfl (ltoRoamingAgreementS_c hr4) trivial rfl rfl rfl rfl) ?_
      refine wkd ?_
      obtain ⟨r5, hr5, H⟩ := ob H
      refine dr_n rfl (ca rfl rfl rfl (ltoSubscriberID_c hr5) trivial rfl rfl rfl rfl) ?_
      refine wkd ?_
      obtain ⟨r6, hr6, H⟩ := ob H
      refine dr_n rfl (ca rfl rfl rfl (sCheckRoaming_c hr6) ⟨by first | rfl | exact lm _, by first | rfl | exact lm _, trivial⟩ rfl rfl rfl rfl) ?_
      refine wkd ?_
      obtain ⟨r7, hr7, H⟩ := ob H
      refine awr_n rfl (ca rfl rfl rfl (ltoSubscription_c hr7) trivial rfl rfl rfl rfl) ?_
      refine wkd ?_
      obtain ⟨r8, hr8, H⟩ := ob H
      refine awr_n rfl (ca rfl rfl rfl (ltoRoamingAgreementS_c hr8) trivial rfl rfl rfl rfl) ?_
      refine wkd ?_
      obtain ⟨r9, hr9, H⟩ := ob H
      refine dr_n rfl (ca rfl rfl rfl (ltoSubscriberID_c hr9) trivial rfl rfl rfl rfl) ?_
      refine wkd ?_
      obtain ⟨r10, hr10, H⟩ := ob H
      refine dr_n rfl (ca rfl rfl rfl (iCheckRoaming_c hr10) ⟨by first | rfl | exact lm _, by first | rfl | exact lm _, trivial⟩ rfl rfl rfl rfl) ?_
      refine wkd ?_
      refine awc_cond rfl (fun h => ?_) (fun h => ?_)
      · have H := bt h H
        refine wkd ?_
        cases H
        exact fin_ret (.cons (.tmp rfl) .nil) rfl rfl rfl
      · have H := bf h H
        refine wkd ?_
        obtain ⟨r11, hr11, H⟩ := ob H
        refine dr_n rfl (ca rfl rfl rfl (ltoSubscription_c hr11) trivial rfl rfl rfl rfl) ?_
        refine wkd ?_
        obtain ⟨r12, hr12, H⟩ := ob H
        refine dr_n rfl (ca rfl rfl rfl (leqSubscription_c hr12) ⟨by first | rfl | exact lm _, by first | rfl | exact lm _, trivial⟩ rfl rfl rfl rfl) ?_
        refine wkd ?_
        refine awc_cond rfl (fun h => ?_) (fun h => ?_)
        · have H := bt h H
          refine wkd ?_
          cases H
          exact fin_ret (.cons (.tmp rfl) .nil) rfl rfl rfl
        · have H := bf h H
          refine wkd ?_
          obtain ⟨r13, hr13, H⟩ := ob H
          refine awr_n rfl (ca rfl rfl rfl (ltoRoamingAgreementS_c hr13) trivial rfl rfl rfl rfl) ?_
          refine wkd ?_
          obtain ⟨r14, hr14, H⟩ := ob H
          refine awr_n rfl (ca rfl rfl rfl (leqRoamingAgreementS_c hr14) ⟨by first | rfl | exact lm _, by first | rfl | exact lm _, trivial⟩ rfl rfl rfl rfl) ?_
          refine wkd ?_
          refine awc_cond rfl (fun h => ?_) (fun h => ?_)
          · have H := bt h H
            refine wkd ?_
            cases H
            exact fin_ret (.cons (.tmp rfl) .nil) rfl rfl rfl
          · have H := bf h H
            refine wkd ?_
            cases H
            exact fin_ret (.cons (.tmp rfl) .nil) rfl rfl rfl
def lFnExactIsValidBook (a0 : TOperatorBook) : Option Bool :=
  Option.bind (lszOperatorBook a0 1048576) fun r1 => bif ltB r1 0 then (some true) else (Option.bind (ltoOperatorBook a0) fun r2 => Option.bind (sIsValidBook r2) fun r3 => Option.bind (ltoOperatorBook a0) fun r4 => Option.bind (iIsValidBook r4) fun r5 => bif !(booB r5 r3) then (some false) else (Option.bind (ltoOperatorBook a0) fun r6 => Option.bind (leqOperatorBook r4 r6) fun r7 => bif !r7 then (some false) else (some true)))
theorem lFnExactIsValidBook_c {a0 : TOperatorBook} {r : Bool} (H : lFnExactIsValidBook a0 = some r) : Fn Try.prog 5 [.agg (eTOperatorBook a0)] [.c (.d (.b r))] := by
  refine fn_in Try.func5 rfl (by kernel_rfl) Try.ntmps5 rfl rfl rfl ?_
  refine wkd ?_
  obtain ⟨r1, hr1, H⟩ := ob H
  refine awr_n rfl (ca rfl rfl rfl (lszOperatorBook_c hr1) trivial rfl rfl rfl rfl) ?_
  refine wkd ?_
  refine awc_cond rfl (fun h => ?_) (fun h => ?_)
  · have H := bt h H
    refine wkd ?_
    cases H
    exact fin_ret (.cons (.tmp rfl) .nil) rfl rfl rfl
  · have H := bf h H
    refine wkd ?_
    obtain ⟨r2, hr2, H⟩ := ob H
    refine awr_n rfl (ca rfl rfl rfl (ltoOperatorBook_c hr2) trivial rfl rfl rfl rfl) ?_
    refine wkd ?_
    obtain ⟨r3, hr3, H⟩ := ob H
    refine awr_n rfl (ca rfl rfl rfl (sIsValidBook_c hr3) ⟨by first | rfl | exact lm _, by first | rfl | exact lm _, trivial⟩ rfl rfl rfl rfl) ?_
    refine wkd ?_
    obtain ⟨r4, hr4, H⟩ := ob H
    refine awr_n rfl (ca rfl rfl rfl (ltoOperatorBook_c hr4) trivial rfl rfl rfl rfl) ?_
    refine wkd ?_
    obtain ⟨r5, hr5, H⟩ := ob H
    refine awr_n rfl (ca rfl rfl rfl (iIsValidBook_c hr5) ⟨by first | rfl | exact lm _, by first | rfl | exact lm _, trivial⟩ rfl rfl rfl rfl) ?_
    refine wkd ?_
    refine awc_cond rfl (fun h => ?_) (fun h => ?_)
    · have H := bt h H
      refine wkd ?_
      cases H
      exact fin_ret (.cons (.tmp rfl) .nil) rfl rfl rfl
    · have H := bf h H
      refine wkd ?_
      obtain ⟨r6, hr6, H⟩ := ob H
      refine dr_n rfl (ca rfl rfl rfl (ltoOperatorBook_c hr6) trivial rfl rfl rfl rfl) ?_
      refine wkd ?_
      obtain ⟨r7, hr7, H⟩ := ob H
      refine dr_n rfl (ca rfl rfl rfl (leqOperatorBook_c hr7) ⟨by first | rfl | exact lm _, by first | rfl | exact lm _, by first | rfl | exact lm _, by first | rfl | exact lm _, trivial⟩ rfl rfl rfl rfl) ?_
      refine wkd ?_
      refine awc_cond rfl (fun h => ?_) (fun h => ?_)
      · have H := bt h H
        refine wkd ?_
        cases H
        exact fin_ret (.cons (.tmp rfl) .nil) rfl rfl rfl
      · have H := bf h H
        refine wkd ?_
        cases H
        exact fin_ret (.cons (.tmp rfl) .nil) rfl rfl rfl
end Go.AM
