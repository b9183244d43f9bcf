/-
  Own text: a part of the abstract machine for this seat (Ghl). No statement is proved here.
-/
import Derived.Test.YtghkejhhneijlaaGhs
import Derived.Test.YtghkejhhneijlaaGhm
set_option linter.unusedVariables false
namespace Go.AM
open Go.Proofs
attribute [local irreducible] AWN NS AWO AWR AWC DR Weak iterQ
set_option maxRecDepth 100000
set_option maxHeartbeats 4000000
def lFnExactBytesOfFirst (a0 : TSession) (a1 : Int) : Option Bool :=
  Option.bind (lszSession a0 1048576) fun r1 => bif ltB r1 0 then (some true) else (Option.bind (ltoSession a0) fun r2 => Option.bind (sBytesOfFirst r2 a1) fun r3 => Option.bind (ltoSession a0) fun r4 => Option.bind (iBytesOfFirst r4 a1) fun r5 => bif !eqB r5 r3 then (some false) else (Option.bind (ltoSession a0) fun r6 => Option.bind (leqSession r4 r6) fun r7 => bif !r7 then (some false) else (some true)))
theorem lFnExactBytesOfFirst_c {a0 : TSession} {a1 : Int} {r : Bool} (H : lFnExactBytesOfFirst a0 a1 = some r) : Fn Try.prog 3 [.agg (eTSession a0), aI a1] [.c (.d (.b r))] := by
  refine fn_in Try.func3 rfl (by kernel_rfl) Try.ntmps3 rfl rfl rfl ?_
  refine wkd ?_
  obtain ⟨r1, hr1, H⟩ := ob H
  refine awr_n rfl (ca rfl rfl rfl (lszSession_c hr1) trivial rfl rfl rfl rfl) ?_
  refine wkd ?_
  refine awc_cond rfl (fun h => ?_) (fun h => ?_)
  · have H := bt h H
    refine wkd ?_
    cases H
    exact fin_ret (.cons (.tmp rfl) .nil) rfl rfl rfl
  · have H := bf h H
    refine wkd ?_
    obtain ⟨r2, hr2, H⟩ := ob H
    refine awr_step rfl (car rfl rfl rfl (ltoSession_c hr2) trivial rfl ⟨by first | rfl | exact lm _, by first | rfl | exact lm _, by first | rfl | exact lm _, trivial⟩ rfl rfl) ?_
    refine wkd ?_
    obtain ⟨r3, hr3, H⟩ := ob H
    refine awr_n rfl (ca rfl rfl rfl (sBytesOfFirst_c hr3) trivial rfl rfl rfl rfl) ?_
    refine wkd ?_
    obtain ⟨r4, hr4, H⟩ := ob H
    refine awr_step rfl (car rfl rfl rfl (ltoSession_c hr4) trivial rfl ⟨by first | rfl | exact lm _, by first | rfl | exact lm _, by first | rfl | exact lm _, trivial⟩ rfl rfl) ?_
    refine wkd ?_
    obtain ⟨r5, hr5, H⟩ := ob H
    refine awr_n rfl (ca rfl rfl rfl (iBytesOfFirst_c hr5) trivial rfl rfl rfl rfl) ?_
    refine wkd ?_
    refine awc_cond rfl (fun h => ?_) (fun h => ?_)
    · have H := bt h H
      refine wkd ?_
      cases H
      exact fin_ret (.cons (.tmp rfl) .nil) rfl rfl rfl
    · have H := bf h H
      refine wkd ?_
      obtain ⟨r6, hr6, H⟩ := ob H
      refine dr_n rfl (ca rfl rfl rfl (ltoSession_c hr6) trivial rfl rfl rfl rfl) ?_
      refine wkd ?_
      obtain ⟨r7, hr7, H⟩ := ob H
      refine dr_n rfl (ca rfl rfl rfl (leqSession_c hr7) ⟨by first | rfl | exact lm _, by first | rfl | exact lm _, by first | rfl | exact lm _, trivial⟩ rfl rfl rfl rfl) ?_
      refine wkd ?_
      refine awc_cond rfl (fun h => ?_) (fun h => ?_)
      · have H := bt h H
        refine wkd ?_
        cases H
        exact fin_ret (.cons (.tmp rfl) .nil) rfl rfl rfl
      · have H := bf h H
        refine wkd ?_
        cases H
        exact fin_ret (.cons (.tmp rfl) .nil) rfl rfl rfl
def lFnExactIsQuiescent (a0 : TNetwork) : Option Bool :=
  Option.bind (lszNetwork a0 1048576) fun r1 => bif ltB r1 0 then (some true) else (Option.bind (ltoNetwork a0) fun r2 => Option.bind (sIsQuiescent r2) fun r3 => Option.bind (ltoNetwork a0) fun r4 => Option.bind (iIsQuiescent r4) fun r5 => bif !(booB r5 r3) then (some false) else (Option.bind (ltoNetwork a0) fun r6 => Option.bind (leqNetwork r4 r6) fun r7 => bif !r7 then (some false) else (some true)))
theorem lFnExactIsQuiescent_c {a0 : TNetwork} {r : Bool} (H : lFnExactIsQuiescent a0 = some r) : Fn Try.prog 4 [.agg (eTNetwork a0)] [.c (.d (.b r))] := by
  refine fn_in Try.func4 rfl (by kernel_rfl) Try.ntmps4 rfl rfl rfl ?_
  refine wkd ?_
  obtain ⟨r1, hr1, H⟩ := ob H
  refine awr_n rfl (ca rfl rfl rfl (lszNetwork_c hr1) trivial rfl rfl rfl rfl) ?_
  refine wkd ?_
  refine awc_cond rfl (fun h => ?_) (fun h => ?_)
  · have H := bt h H
    refine wkd ?_
    cases H
    exact fin_ret (.cons (.tmp rfl) .nil) rfl rfl rfl
  · have H := bf h H
    refine wkd ?_
    obtain ⟨r2, hr2, H⟩ := ob H
    refine awr_step rfl (car rfl rfl rfl (ltoNetwork_c hr2) trivial rfl ⟨by first | rfl | exact lm _, by first | rfl | exact lm _, by first | rfl | exact lm _, by first | rfl | exact lm _, by first | rfl | exact lm _, trivial⟩ rfl rfl) ?_
    refine wkd ?_
    obtain ⟨r3, hr3, H⟩ := ob H
    refine awr_n rfl (ca rfl rfl rfl (sIsQuiescent_c hr3) trivial rfl rfl rfl rfl) ?_
    refine wkd ?_
    obtain ⟨r4, hr4, H⟩ := ob H
    refine awr_step rfl (car rfl rfl rfl (ltoNetwork_c hr4) trivial rfl ⟨by first | rfl | exact lm _, by first | rfl | exact lm _, by first | rfl | exact lm _, by first | rfl | exact lm _, by first | rfl | exact lm _, trivial⟩ rfl rfl) ?_
    refine wkd ?_
    obtain ⟨r5, hr5, H⟩ := ob H
    refine awr_n rfl (ca rfl rfl rfl (iIsQuiescent_c hr5) trivial rfl rfl rfl rfl) ?_
    refine wkd ?_
    refine awc_cond rfl (fun h => ?_) (fun h => ?_)
    · have H := bt h H
      refine wkd ?_
      cases H
      exact fin_ret (.cons (.tmp rfl) .nil) rfl rfl rfl
    · have H := bf h H
      refine wkd ?_
      obtain ⟨r6, hr6, H⟩ := ob H
      refine dr_n rfl (ca rfl rfl rfl (ltoNetwork_c hr6) trivial rfl rfl rfl rfl) ?_
      refine wkd ?_
      obtain ⟨r7, hr7, H⟩ := ob H
      refine dr_n rfl (ca rfl rfl rfl (leqNetwork_c hr7) ⟨by first | rfl | exact lm _, by first | rfl | exact lm _, by first | rfl | exact lm _, by first | rfl | exact lm _, by first | rfl | exact lm _, trivial⟩ rfl rfl rfl rfl) ?_
      refine wkd ?_
      refine awc_cond rfl (fun h => ?_) (fun h => ?_)
      · have H := bt h H
        refine wkd ?_
        cases H
        exact fin_ret (.cons (.tmp rfl) .nil) rfl rfl rfl
      · have H := bf h H
        refine wkd ?_
        cases H
        exact fin_ret (.cons (.tmp rfl) .nil) rfl rfl rfl
def lFnExactAcknowledgedWereDelivered (a0 : TNetwork) (a1 : Int) : Option Bool :=
  Option.bind (lszNetwork a0 1048576) fun r1 => bif ltB r1 0 then (some true) else (Option.bind (ltoNetwork a0) fun r2 => Option.bind (sAcknowledgedWereDelivered r2 a1) fun r3 => Option.bind (ltoNetwork a0) fun r4 => Option.bind (iAcknowledgedWereDelivered r4 a1) fun r5 => bif !(booB r5 r3) then (some false) else (Option.bind (ltoNetwork a0) fun r6 => Option.bind (leqNetwork r4 r6) fun r7 => bif !r7 then (some false) else (some true)))
theorem lFnExactAcknowledgedWereDelivered_c {a0 : TNetwork} {a1 : Int} {r : Bool} (H : lFnExactAcknowledgedWereDelivered a0 a1 = some r) : Fn Try.prog 5 [.agg (eTNetwork a0), aI a1] [.c (.d (.b r))] := by
  refine fn_in Try.func5 rfl (by kernel_rfl) Try.ntmps5 rfl rfl rfl ?_
  refine wkd ?_
  obtain ⟨r1, hr1, H⟩ := ob H
  refine awr_n rfl (ca rfl rfl rfl (lszNetwork_c hr1) trivial rfl rfl rfl rfl) ?_
  refine wkd ?_
  refine awc_cond rfl (fun h => ?_) (fun h => ?_)
  · have H := bt h H
    refine wkd ?_
    cases H
    exact fin_ret (.cons (.tmp rfl) .nil) rfl rfl rfl
  · have H := bf h H
    refine wkd ?_
    obtain ⟨r2, hr2, H⟩ := ob H
    refine awr_step rfl (car rfl rfl rfl (ltoNetwork_c hr2) trivial rfl ⟨by first | rfl | exact lm _, by first | rfl | exact lm _, by first | rfl | exact lm _, by first | rfl | exact lm _, by first | rfl | exact lm _, trivial⟩ rfl rfl) ?_
    refine wkd ?_
    obtain ⟨r3, hr3, H⟩ := ob H
    refine awr_n rfl (ca rfl rfl rfl (sAcknowledgedWereDelivered_c hr3) trivial rfl rfl rfl rfl) ?_
    refine wkd ?_
    obtain ⟨r4, hr4, H⟩ := ob H
    refine awr_step rfl (car rfl rfl rfl (ltoNetwork_c hr4) trivial rfl ⟨by first | rfl | exact lm _, by first | rfl | exact lm _, by first | rfl | exact lm _, by first | rfl | exact lm _, by first | rfl | exact lm _, trivial⟩ rfl rfl) ?_
    refine wkd ?_
    obtain ⟨r5, hr5, H⟩ := ob H
    refine awr_n rfl (ca rfl rfl rfl (iAcknowledgedWereDelivered_c hr5) trivial rfl rfl rfl rfl) ?_
    refine wkd ?_
    refine awc_cond rfl (fun h => ?_) (fun h => ?_)
    · have H := bt h H
      refine wkd ?_
      cases H
      exact fin_ret (.cons (.tmp rfl) .nil) rfl rfl rfl
    · have H := bf h H
      refine wkd ?_
      obtain ⟨r6, hr6, H⟩ := ob H
      refine dr_n rfl (ca rfl rfl rfl (ltoNetwork_c hr6) trivial rfl rfl rfl rfl) ?_
      refine wkd ?_
      obtain ⟨r7, hr7, H⟩ := ob H
      refine dr_n rfl (ca rfl rfl rfl (leqNetwork_c hr7) ⟨by first | rfl | exact lm _, by first | rfl | exact lm _, by first | rfl | exact lm _, by first | rfl | exact lm _, by first | rfl | exact lm _, trivial⟩ rfl rfl rfl rfl) ?_
      refine wkd ?_
      refine awc_cond rfl (fun h => ?_) (fun h => ?_)
      · have H := bt h H
        refine wkd ?_
        cases H
        exact fin_ret (.cons (.tmp rfl) .nil) rfl rfl rfl
      · have H := bf h H
        refine wkd ?_
        cases H
        exact fin_ret (.cons (.tmp rfl) .nil) rfl rfl rfl
def lFnExactIsReachable (a0 : TNetwork) (a1 : Int) : Option Bool :=
  Option.bind (lszNetwork a0 1048576) fun r1 => bif ltB r1 0 then (some true) else (Option.bind (ltoNetwork a0) fun r2 => Option.bind (sIsReachable r2 a1) fun r3 => Option.bind (ltoNetwork a0) fun r4 => Option.bind (iIsReachable r4 a1) fun r5 => bif !(booB r5 r3) then (some false) else (Option.bind (ltoNetwork a0) fun r6 => Option.bind (leqNetwork r4 r6) fun r7 => bif !r7 then (some false) else (some true)))
theorem lFnExactIsReachable_c {a0 : TNetwork} {a1 : Int} {r : Bool} (H : lFnExactIsReachable a0 a1 = some r) : Fn Try.prog 6 [.agg (eTNetwork a0), aI a1] [.c (.d (.b r))] := by
  refine fn_in Try.func6 rfl (by kernel_rfl) Try.ntmps6 rfl rfl rfl ?_
  refine wkd ?_
  obtain ⟨r1, hr1, H⟩ := ob H
  refine awr_n rfl (ca rfl rfl rfl (lszNetwork_c hr1) trivial rfl rfl rfl rfl) ?_
  refine wkd ?_
  refine awc_cond rfl (fun h => ?_) (fun h => ?_)
  · have H := bt h H
    refine wkd ?_
    cases H
    exact fin_ret (.cons (.tmp rfl) .nil) rfl rfl rfl
  · have H := bf h H
    refine wkd ?_
    obtain ⟨r2, hr2, H⟩ := ob H
    refine awr_step rfl (car rfl rfl rfl (ltoNetwork_c hr2) trivial rfl ⟨by first | rfl | exact lm _, by first | rfl | exact lm _, by first | rfl | exact lm _, by first | rfl | exact lm _, by first | rfl | exact lm _, trivial⟩ rfl rfl) ?_
    refine wkd ?_
    obtain ⟨r3, hr3, H⟩ := ob H
    refine awr_n rfl (ca rfl rfl rfl (sIsReachable_c hr3) trivial rfl rfl rfl rfl) ?_
    refine wkd ?_
    obtain ⟨r4, hr4, H⟩ := ob H
    refine awr_step rfl (car rfl rfl rfl (ltoNetwork_c hr4) trivial rfl ⟨by first | rfl | exact lm _, by first | rfl | exact lm _, by first | rfl | exact lm _, by first | rfl | exact lm _, by first | rfl | exact lm _, trivial⟩ rfl rfl) ?_
    refine wkd ?_
    obtain ⟨r5, hr5, H⟩ := ob H
    refine awr_n rfl (ca rfl rfl rfl (iIsReachable_c hr5) trivial rfl rfl rfl rfl) ?_
    refine wkd ?_
    refine awc_cond rfl (fun h => ?_) (fun h => ?_)
    · have H := bt h H
      refine wkd ?_
      cases H
      exact fin_ret (.cons (.tmp rfl) .nil) rfl rfl rfl
    · have H := bf h H
      refine wkd ?_
      obtain ⟨r6, hr6, H⟩ := ob H
      refine dr_n rfl (ca rfl rfl rfl (ltoNetwork_c hr6) trivial rfl rfl rfl rfl) ?_
      refine wkd ?_
      obtain ⟨r7, hr7, H⟩ := ob H
      refine dr_n rfl (ca rfl rfl rfl (leqNetwork_c hr7) ⟨by first | rfl | exact lm _, by first | rfl | exact lm _, by first | rfl | exact lm _, by first | rfl | exact lm _, by first | rfl | exact lm _, trivial⟩ rfl rfl rfl rfl) ?_
      refine wkd ?_
      refine awc_cond rfl (fun h => ?_) (fun h => ?_)
      · have H := bt h H
        refine wkd ?_
        cases H
        exact fin_ret (.cons (.tmp rfl) .nil) rfl rfl rfl
      · have H := bf h H
        refine wkd ?_
        cases H
        exact fin_ret (.cons (.tmp rfl) .nil) rfl rfl rfl
def lFnExactChargedBytes (a0 : TNetwork) (a1 : Int) : Option Bool :=
  Option.bind (lszNetwork a0 1048576) fun r1 => bif ltB r1 0 then (some true) else (Option.bind (ltoNetwork a0) fun r2 => Option.bind (sChargedBytes r2 a1) fun r3 => Option.bind (ltoNetwork a0) fun r4 => Option.bind (iChargedBytes r4 a1) fun r5 => bif !eqB r5 r3 then (some false) else (Option.bind (ltoNetwork a0) fun r6 => Option.bind (leqNetwork r4 r6) fun r7 => bif !r7 then (some false) else (some true)))
theorem lFnExactChargedBytes_c {a0 : TNetwork} {a1 : Int} {r : Bool} (H : lFnExactChargedBytes a0 a1 = some r) : Fn Try.prog 7 [.agg (eTNetwork a0), aI a1] [.c (.d (.b r))] := by
  refine fn_in Try.func7 rfl (by kernel_rfl) Try.ntmps7 rfl rfl rfl ?_
  refine wkd ?_
  obtain ⟨r1, hr1, H⟩ := ob H
  refine awr_n rfl (ca rfl rfl rfl (lszNetwork_c hr1) trivial rfl rfl rfl rfl) ?_
  refine wkd ?_
  refine awc_cond rfl (fun h => ?_) (fun h => ?_)
  · have H := bt h H
    refine wkd ?_
    cases H
    exact fin_ret (.cons (.tmp rfl) .nil) rfl rfl rfl
  · have H := bf h H
    refine wkd ?_
    obtain ⟨r2, hr2, H⟩ := ob H
    refine awr_step rfl (car rfl rfl rfl (ltoNetwork_c hr2) trivial rfl ⟨by first | rfl | exact lm _, by first | rfl | exact lm _, by first | rfl | exact lm _, by first | rfl | exact lm _, by first | rfl | exact lm _, trivial⟩ rfl rfl) ?_
    refine wkd ?_
    obtain ⟨r3, hr3, H⟩ := ob H
    refine awr_n rfl (ca rfl rfl rfl (sChargedBytes_c hr3) trivial rfl rfl rfl rfl) ?_
    refine wkd ?_
    obtain ⟨r4, hr4, H⟩ := ob H
    refine awr_step rfl (car rfl rfl rfl (ltoNetwork_c hr4) trivial rfl ⟨by first | rfl | exact lm _, by first | rfl | exact lm _, by first | rfl | exact lm _, by first | rfl | exact lm _, by first | rfl | exact lm _, trivial⟩ rfl rfl) ?_
    refine wkd ?_
    obtain ⟨r5, hr5, H⟩ := ob H
    refine awr_n rfl (ca rfl rfl rfl (iChargedBytes_c hr5) trivial rfl rfl rfl rfl) ?_
    refine wkd ?_
    refine awc_cond rfl (fun h => ?_) (fun h => ?_)
    · have H := bt h H
      refine wkd ?_
      cases H
      exact fin_ret (.cons (.tmp rfl) .nil) rfl rfl rfl
    · have H := bf h H
      refine wkd ?_
      obtain ⟨r6, hr6, H⟩ := ob H
      refine dr_n rfl (ca rfl rfl rfl (ltoNetwork_c hr6) trivial rfl rfl rfl rfl) ?_
      refine wkd ?_
      obtain ⟨r7, hr7, H⟩ := ob H
      refine dr_n rfl (ca rfl rfl rfl (leqNetwork_c hr7) ⟨by first | rfl | exact lm _, by first | rfl | exact lm _, by first | rfl | exact lm _, by first | rfl | exact lm _, by first | rfl | exact lm _, trivial⟩ rfl rfl rfl rfl) ?_
      refine wkd ?_
      refine awc_cond rfl (fun h => ?_) (fun h => ?_)
      · have H := bt h H
        refine wkd ?_
        cases H
        exact fin_ret (.cons (.tmp rfl) .nil) rfl rfl rfl
      · have H := bf h H
        refine wkd ?_
        cases H
        exact fin_ret (.cons (.tmp rfl) .nil) rfl rfl rfl
def lFnExactIsServed (a0 : TNetwork) (a1 : Int) : Option Bool :=
  Option.bind (lszNetwork a0 1048576) fun r1 => bif ltB r1 0 then (some true) else (Option.bind (ltoNetwork a0) fun r2 => Option.bind (sIsServed r2 a1) fun r3 => Option.bind (ltoNetwork a0) fun r4 => Option.bind (iIsServed r4 a1) fun r5 => bif !(booB r5 r3) then (some false) else (Option.bind (ltoNetwork a0) fun r6 => Option.bind (leqNetwork r4 r6) fun r7 => bif !r7 then (some false) else (some true)))
theorem lFnExactIsServed_c {a0 : TNetwork} {a1 : Int} {r : Bool} (H : lFnExactIsServed a0 a1 = some r) : Fn Try.prog 8 [.agg (eTNetwork a0), aI a1] [.c (.d (.b r))] := by
  refine fn_in Try.func8 rfl (by kernel_rfl) Try.ntmps8 rfl rfl rfl ?_
  refine wkd ?_
  obtain ⟨r1, hr1, H⟩ := ob H
  refine awr_n rfl (ca rfl rfl rfl (lszNetwork_c hr1) trivial rfl rfl rfl rfl) ?_
  refine wkd ?_
  refine awc_cond rfl (fun h => ?_) (fun h => ?_)
  · have H := bt h H
    refine wkd ?_
    cases H
    exact fin_ret (.cons (.tmp rfl) .nil) rfl rfl rfl
  · have H := bf h H
    refine wkd ?_
    obtain ⟨r2, hr2, H⟩ := ob H
    refine awr_step rfl (car rfl rfl rfl (ltoNetwork_c hr2) trivial rfl ⟨by first | rfl | exact lm _, by first | rfl | exact lm _, by first | rfl | exact lm _, by first | rfl | exact lm _, by first | rfl | exact lm _, trivial⟩ rfl rfl) ?_
    refine wkd ?_
    obtain ⟨r3, hr3, H⟩ := ob H
    refine awr_n rfl (ca rfl rfl rfl (sIsServed_c hr3) trivial rfl rfl rfl rfl) ?_
    refine wkd ?_
    obtain ⟨r4, hr4, H⟩ := ob H
    refine awr_step rfl (car rfl rfl rfl (ltoNetwork_c hr4) trivial rfl ⟨by first | rfl | exact lm _, by first | rfl | exact lm _, by first | rfl | exact lm _, by first | rfl | exact lm _, by first | rfl | exact lm _, trivial⟩ rfl rfl) ?_
    refine wkd ?_
    obtain ⟨r5, hr5, H⟩ := ob H
    refine awr_n rfl (ca rfl rfl rfl (iIsServed_c hr5) trivial rfl rfl rfl rfl) ?_
    refine wkd ?_
    refine awc_cond rfl (fun h => ?_) (fun h => ?_)
    · have H := bt h H
      refine wkd ?_
      cases H
      exact fin_ret (.cons (.tmp rfl) .nil) rfl rfl rfl
    · have H := bf h H
      refine wkd ?_
      obtain ⟨r6, hr6, H⟩ := ob H
      refine dr_n rfl (ca rfl rfl rfl (ltoNetwork_c hr6) trivial rfl rfl rfl rfl) ?_
      refine wkd ?_
      obtain ⟨r7, hr7, H⟩ := ob H
      refine dr_n rfl (ca rfl rfl rfl (leqNetwork_c hr7) ⟨by first | rfl | exact lm _, by first | rfl | exact lm _, by first | rfl | exact lm _, by first | rfl | exact lm _, by first | rfl | exact lm _, trivial⟩ rfl rfl rfl rfl) ?_
      refine wkd ?_
      refine awc_cond rfl (fun h => ?_) (fun h => ?_)
      · have H := bt h H
        refine wkd ?_
        cases H
        exact fin_ret (.cons (.tmp rfl) .nil) rfl rfl rfl
      · have H := bf h H
        refine wkd ?_
        cases H
        exact fin_ret (.cons (.tmp rfl) .nil) rfl rfl rfl
end Go.AM
