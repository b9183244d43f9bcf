/-
  Own text: a part of the abstract machine for this seat (Jal). No statement is proved here.
-/
import Derived.Test.YtafgglkmebkeeaaDoorJas
import Derived.Test.YtafgglkmebkeeaaDoorJam
set_option linter.unusedVariables false
namespace Go.AM
open Go.Proofs
attribute [local irreducible] AWN NS AWO AWR AWC DR Weak iterQ
set_option maxRecDepth 100000
set_option maxHeartbeats 4000000
def lFnExactFormatStatement (a0 : List TStatementLine) : Option Bool :=
  Option.bind (lszStatementLineS a0 1048576) fun r1 => bif ltB r1 0 then (some true) else (Option.bind (ltoStatementLineS a0) fun r2 => Option.bind (sFormatStatement r2) fun r3 => Option.bind (ltoStatementLineS a0) fun r4 => Option.bind (iFormatStatement r4) fun r5 => bif !strB r5 r3 then (some false) else (Option.bind (ltoStatementLineS a0) fun r6 => Option.bind (leqStatementLineS r4 r6) fun r7 => bif !r7 then (some false) else (some true)))
theorem lFnExactFormatStatement_c {a0 : List TStatementLine} {r : Bool} (H : lFnExactFormatStatement a0 = some r) : Fn Tryd.prog 3 [aL (a0.map eTStatementLine)] [.c (.d (.b r))] := by
  refine fn_in Tryd.func3 rfl (by kernel_rfl) Tryd.ntmps3 rfl rfl rfl ?_
  refine wk ?_
  obtain ⟨r1, hr1, H⟩ := ob H
  refine awr_n rfl (ca rfl rfl rfl (lszStatementLineS_c hr1) trivial rfl rfl rfl rfl) ?_
  refine wk ?_
  refine awc_cond rfl (fun h => ?_) (fun h => ?_)
  · have H := bt h H
    refine wk ?_
    cases H
    exact fin_ret (.cons (.tmp rfl) .nil) rfl rfl rfl
  · have H := bf h H
    refine wk ?_
    obtain ⟨r2, hr2, H⟩ := ob H
    refine awr_step rfl (car rfl rfl rfl (ltoStatementLineS_c hr2) trivial rfl ⟨by first | rfl | exact lm _, trivial⟩ rfl rfl) ?_
    refine wk ?_
    obtain ⟨r3, hr3, H⟩ := ob H
    refine awr_n rfl (ca rfl rfl rfl (sFormatStatement_c hr3) trivial rfl rfl rfl rfl) ?_
    refine wk ?_
    obtain ⟨r4, hr4, H⟩ := ob H
    refine awr_step rfl (car rfl rfl rfl (ltoStatementLineS_c hr4) trivial rfl ⟨by first | rfl | exact lm _, trivial⟩ rfl rfl) ?_
    refine wk ?_
    obtain ⟨r5, hr5, H⟩ := ob H
    refine awr_n rfl (ca rfl rfl rfl (iFormatStatement_c hr5) trivial rfl rfl rfl rfl) ?_
    refine wk ?_
    refine awc_cond rfl (fun h => ?_) (fun h => ?_)
    · have H := bt h H
      refine wk ?_
      cases H
      exact fin_ret (.cons (.tmp rfl) .nil) rfl rfl rfl
    · have H := bf h H
      refine wk ?_
      obtain ⟨r6, hr6, H⟩ := ob H
      refine awr_step rfl (car rfl rfl rfl (ltoStatementLineS_c hr6) trivial rfl ⟨by first | rfl | exact lm _, trivial⟩ rfl rfl) ?_
      refine wk ?_
      obtain ⟨r7, hr7, H⟩ := ob H
      refine awr_n rfl (ca rfl rfl rfl (leqStatementLineS_c hr7) trivial rfl rfl rfl rfl) ?_
      refine wk ?_
      refine awc_cond rfl (fun h => ?_) (fun h => ?_)
      · have H := bt h H
        refine wk ?_
        cases H
        exact fin_ret (.cons (.tmp rfl) .nil) rfl rfl rfl
      · have H := bf h H
        refine wk ?_
        cases H
        exact fin_ret (.cons (.tmp rfl) .nil) rfl rfl rfl
def lFnExactFormatAccount (a0 : TAccount) : Option Bool :=
  Option.bind (lszAccount a0 1048576) fun r1 => bif ltB r1 0 then (some true) else (Option.bind (ltoAccount a0) fun r2 => Option.bind (sFormatAccount r2) fun r3 => Option.bind (ltoAccount a0) fun r4 => Option.bind (iFormatAccount r4) fun r5 => bif !strB r5 r3 then (some false) else (Option.bind (ltoAccount a0) fun r6 => Option.bind (leqAccount r4 r6) fun r7 => bif !r7 then (some false) else (some true)))
theorem lFnExactFormatAccount_c {a0 : TAccount} {r : Bool} (H : lFnExactFormatAccount a0 = some r) : Fn Tryd.prog 4 [.agg (eTAccount a0)] [.c (.d (.b r))] := by
  refine fn_in Tryd.func4 rfl (by kernel_rfl) Tryd.ntmps4 rfl rfl rfl ?_
  refine wkd ?_
  obtain ⟨r1, hr1, H⟩ := ob H
  refine awr_n rfl (ca rfl rfl rfl (lszAccount_c hr1) trivial rfl rfl rfl rfl) ?_
  refine wkd ?_
  refine awc_cond rfl (fun h => ?_) (fun h => ?_)
  · have H := bt h H
    refine wkd ?_
    cases H
    exact fin_ret (.cons (.tmp rfl) .nil) rfl rfl rfl
  · have H := bf h H
    refine wkd ?_
    obtain ⟨r2, hr2, H⟩ := ob H
    refine awr_step rfl (car rfl rfl rfl (ltoAccount_c hr2) trivial rfl ⟨by first | rfl | exact lm _, trivial⟩ rfl rfl) ?_
    refine wkd ?_
    obtain ⟨r3, hr3, H⟩ := ob H
    refine awr_n rfl (ca rfl rfl rfl (sFormatAccount_c hr3) trivial rfl rfl rfl rfl) ?_
    refine wkd ?_
    obtain ⟨r4, hr4, H⟩ := ob H
    refine awr_step rfl (car rfl rfl rfl (ltoAccount_c hr4) trivial rfl ⟨by first | rfl | exact lm _, trivial⟩ rfl rfl) ?_
    refine wkd ?_
    obtain ⟨r5, hr5, H⟩ := ob H
    refine awr_n rfl (ca rfl rfl rfl (iFormatAccount_c hr5) trivial rfl rfl rfl rfl) ?_
    refine wkd ?_
    refine awc_cond rfl (fun h => ?_) (fun h => ?_)
    · have H := bt h H
      refine wkd ?_
      cases H
      exact fin_ret (.cons (.tmp rfl) .nil) rfl rfl rfl
    · have H := bf h H
      refine wkd ?_
      obtain ⟨r6, hr6, H⟩ := ob H
      refine dr_n rfl (ca rfl rfl rfl (ltoAccount_c hr6) trivial rfl rfl rfl rfl) ?_
      refine wkd ?_
      obtain ⟨r7, hr7, H⟩ := ob H
      refine dr_n rfl (ca rfl rfl rfl (leqAccount_c hr7) ⟨by first | rfl | exact lm _, trivial⟩ rfl rfl rfl rfl) ?_
      refine wkd ?_
      refine awc_cond rfl (fun h => ?_) (fun h => ?_)
      · have H := bt h H
        refine wkd ?_
        cases H
        exact fin_ret (.cons (.tmp rfl) .nil) rfl rfl rfl
      · have H := bf h H
        refine wkd ?_
        cases H
        exact fin_ret (.cons (.tmp rfl) .nil) rfl rfl rfl
def lFnExactFormatFlight (a0 : TFlight) : Option Bool :=
  Option.bind (lszFlight a0 1048576) fun r1 => bif ltB r1 0 then (some true) else (Option.bind (ltoFlight a0) fun r2 => Option.bind (sFormatFlight r2) fun r3 => Option.bind (ltoFlight a0) fun r4 => Option.bind (iFormatFlight r4) fun r5 => bif !strB r5 r3 then (some false) else (Option.bind (ltoFlight a0) fun r6 => Option.bind (leqFlight r4 r6) fun r7 => bif !r7 then (some false) else (some true)))
theorem lFnExactFormatFlight_c {a0 : TFlight} {r : Bool} (H : lFnExactFormatFlight a0 = some r) : Fn Tryd.prog 5 [.agg (eTFlight a0)] [.c (.d (.b r))] := by
  refine fn_in Tryd.func5 rfl (by kernel_rfl) Tryd.ntmps5 rfl rfl rfl ?_
  refine wkd ?_
  obtain ⟨r1, hr1, H⟩ := ob H
  refine awr_n rfl (ca rfl rfl rfl (lszFlight_c hr1) trivial rfl rfl rfl rfl) ?_
  refine wkd ?_
  refine awc_cond rfl (fun h => ?_) (fun h => ?_)
  · have H := bt h H
    refine wkd ?_
    cases H
    exact fin_ret (.cons (.tmp rfl) .nil) rfl rfl rfl
  · have H := bf h H
    refine wkd ?_
    obtain ⟨r2, hr2, H⟩ := ob H
    refine awr_step rfl (car rfl rfl rfl (ltoFlight_c hr2) trivial rfl ⟨by first | rfl | exact lm _, trivial⟩ rfl rfl) ?_
    refine wkd ?_
    obtain ⟨r3, hr3, H⟩ := ob H
    refine awr_n rfl (ca rfl rfl rfl (sFormatFlight_c hr3) trivial rfl rfl rfl rfl) ?_
    refine wkd ?_
    obtain ⟨r4, hr4, H⟩ := ob H
    refine awr_step rfl (car rfl rfl rfl (ltoFlight_c hr4) trivial rfl ⟨by first | rfl | exact lm _, trivial⟩ rfl rfl) ?_
    refine wkd ?_
    obtain ⟨r5, hr5, H⟩ := ob H
    refine awr_n rfl (ca rfl rfl rfl (iFormatFlight_c hr5) trivial rfl rfl rfl rfl) ?_
    refine wkd ?_
    refine awc_cond rfl (fun h => ?_) (fun h => ?_)
    · have H := bt h H
      refine wkd ?_
      cases H
      exact fin_ret (.cons (.tmp rfl) .nil) rfl rfl rfl
    · have H := bf h H
      refine wkd ?_
      obtain ⟨r6, hr6, H⟩ := ob H
      refine dr_n rfl (ca rfl rfl rfl (ltoFlight_c hr6) trivial rfl rfl rfl rfl) ?_
      refine wkd ?_
      obtain ⟨r7, hr7, H⟩ := ob H
      refine dr_n rfl (ca rfl rfl rfl (leqFlight_c hr7) ⟨by first | rfl | exact lm _, trivial⟩ rfl rfl rfl rfl) ?_
      refine wkd ?_
      refine awc_cond rfl (fun h => ?_) (fun h => ?_)
      · have H := bt h H
        refine wkd ?_
        cases H
        exact fin_ret (.cons (.tmp rfl) .nil) rfl rfl rfl
      · have H := bf h H
        refine wkd ?_
        cases H
        exact fin_ret (.cons (.tmp rfl) .nil) rfl rfl rfl
def lFnExactFormatDevice (a0 : TDevice) : Option Bool :=
  Option.bind (lszDevice a0 1048576) fun r1 => bif ltB r1 0 then (some true) else (Option.bind (ltoDevice a0) fun r2 => Option.bind (sFormatDevice r2) fun r3 => Option.bind (ltoDevice a0) fun r4 => Option.bind (iFormatDevice r4) fun r5 => bif !strB r5 r3 then (some false) else (Option.bind (ltoDevice a0) fun r6 => Option.bind (leqDevice r4 r6) fun r7 => bif !r7 then (some false) else (some true)))
theorem lFnExactFormatDevice_c {a0 : TDevice} {r : Bool} (H : lFnExactFormatDevice a0 = some r) : Fn Tryd.prog 6 [.agg (eTDevice a0)] [.c (.d (.b r))] := by
  refine fn_in Tryd.func6 rfl (by kernel_rfl) Tryd.ntmps6 rfl rfl rfl ?_
  refine wkd ?_
  obtain ⟨r1, hr1, H⟩ := ob H
  refine awr_n rfl (ca rfl rfl rfl (lszDevice_c hr1) trivial rfl rfl rfl rfl) ?_
  refine wkd ?_
  refine awc_cond rfl (fun h => ?_) (fun h => ?_)
  · have H := bt h H
    refine wkd ?_
    cases H
    exact fin_ret (.cons (.tmp rfl) .nil) rfl rfl rfl
  · have H := bf h H
    refine wkd ?_
    obtain ⟨r2, hr2, H⟩ := ob H
    refine awr_step rfl (car rfl rfl rfl (ltoDevice_c hr2) trivial rfl ⟨by first | rfl | exact lm _, by first | rfl | exact lm _, trivial⟩ rfl rfl) ?_
    refine wkd ?_
    obtain ⟨r3, hr3, H⟩ := ob H
    refine awr_n rfl (ca rfl rfl rfl (sFormatDevice_c hr3) trivial rfl rfl rfl rfl) ?_
    refine wkd ?_
    obtain ⟨r4, hr4, H⟩ := ob H
    refine awr_step rfl (car rfl rfl rfl (ltoDevice_c hr4) trivial rfl ⟨by first | rfl | exact lm _, by first | rfl | exact lm _, trivial⟩ rfl rfl) ?_
    refine wkd ?_
    obtain ⟨r5, hr5, H⟩ := ob H
    refine awr_n rfl (ca rfl rfl rfl (iFormatDevice_c hr5) trivial rfl rfl rfl rfl) ?_
    refine wkd ?_
    refine awc_cond rfl (fun h => ?_) (fun h => ?_)
    · have H := bt h H
      refine wkd ?_
      cases H
      exact fin_ret (.cons (.tmp rfl) .nil) rfl rfl rfl
    · have H := bf h H
      refine wkd ?_
      obtain ⟨r6, hr6, H⟩ := ob H
      refine dr_n rfl (ca rfl rfl rfl (ltoDevice_c hr6) trivial rfl rfl rfl rfl) ?_
      refine wkd ?_
      obtain ⟨r7, hr7, H⟩ := ob H
      refine dr_n rfl (ca rfl rfl rfl (leqDevice_c hr7) ⟨by first | rfl | exact lm _, by first | rfl | exact lm _, trivial⟩ rfl rfl rfl rfl) ?_
      refine wkd ?_
      refine awc_cond rfl (fun h => ?_) (fun h => ?_)
      · have H := bt h H
        refine wkd ?_
        cases H
        exact fin_ret (.cons (.tmp rfl) .nil) rfl rfl rfl
      · have H := bf h H
        refine wkd ?_
        cases H
        exact fin_ret (.cons (.tmp rfl) .nil) rfl rfl rfl
def lFnExactFormatSession (a0 : TSession) : Option Bool :=
  Option.bind (lszSession a0 1048576) fun r1 => bif ltB r1 0 then (some true) else (Option.bind (ltoSession a0) fun r2 => Option.bind (sFormatSession r2) fun r3 => Option.bind (ltoSession a0) fun r4 => Option.bind (iFormatSession r4) fun r5 => bif !strB r5 r3 then (some false) else (Option.bind (ltoSession a0) fun r6 => Option.bind (leqSession r4 r6) fun r7 => bif !r7 then (some false) else (some true)))
theorem lFnExactFormatSession_c {a0 : TSession} {r : Bool} (H : lFnExactFormatSession a0 = some r) : Fn Tryd.prog 8 [.agg (eTSession a0)] [.c (.d (.b r))] := by
  refine fn_in Tryd.func8 rfl (by kernel_rfl) Tryd.ntmps8 rfl rfl rfl ?_
  refine wkd ?_
  obtain ⟨r1, hr1, H⟩ := ob H
  refine awr_n rfl (ca rfl rfl rfl (lszSession_c hr1) trivial rfl rfl rfl rfl) ?_
  refine wkd ?_
  refine awc_cond rfl (fun h => ?_) (fun h => ?_)
  · have H := bt h H
    refine wkd ?_
    cases H
    exact fin_ret (.cons (.tmp rfl) .nil) rfl rfl rfl
  · have H := bf h H
    refine wkd ?_
    obtain ⟨r2, hr2, H⟩ := ob H
    refine awr_step rfl (car rfl rfl rfl (ltoSession_c hr2) trivial rfl ⟨by first | rfl | exact lm _, by first | rfl | exact lm _, by first | rfl | exact lm _, trivial⟩ rfl rfl) ?_
    refine wkd ?_
    obtain ⟨r3, hr3, H⟩ := ob H
    refine awr_n rfl (ca rfl rfl rfl (sFormatSession_c hr3) trivial rfl rfl rfl rfl) ?_
    refine wkd ?_
    obtain ⟨r4, hr4, H⟩ := ob H
    refine awr_step rfl (car rfl rfl rfl (ltoSession_c hr4) trivial rfl ⟨by first | rfl | exact lm _, by first | rfl | exact lm _, by first | rfl | exact lm _, trivial⟩ rfl rfl) ?_
    refine wkd ?_
    obtain ⟨r5, hr5, H⟩ := ob H
    refine awr_n rfl (ca rfl rfl rfl (iFormatSession_c hr5) trivial rfl rfl rfl rfl) ?_
    refine wkd ?_
    refine awc_cond rfl (fun h => ?_) (fun h => ?_)
    · have H := bt h H
      refine wkd ?_
      cases H
      exact fin_ret (.cons (.tmp rfl) .nil) rfl rfl rfl
    · have H := bf h H
      refine wkd ?_
      obtain ⟨r6, hr6, H⟩ := ob H
      refine dr_n rfl (ca rfl rfl rfl (ltoSession_c hr6) trivial rfl rfl rfl rfl) ?_
      refine wkd ?_
      obtain ⟨r7, hr7, H⟩ := ob H
      refine dr_n rfl (ca rfl rfl rfl (leqSession_c hr7) ⟨by first | rfl | exact lm _, by first | rfl | exact lm _, by first | rfl | exact lm _, trivial⟩ rfl rfl rfl rfl) ?_
      refine wkd ?_
      refine awc_cond rfl (fun h => ?_) (fun h => ?_)
      · have H := bt h H
        refine wkd ?_
        cases H
        exact fin_ret (.cons (.tmp rfl) .nil) rfl rfl rfl
      · have H := bf h H
        refine wkd ?_
        cases H
        exact fin_ret (.cons (.tmp rfl) .nil) rfl rfl rfl
end Go.AM
