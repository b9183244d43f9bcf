/-
  Own text: a part of the abstract machine for this seat (Mal). No statement is proved here.
-/
import Derived.Test.YtafgglkmebkeeaaGreatDoorMas
import Derived.Test.YtafgglkmebkeeaaGreatDoorMam
set_option linter.unusedVariables false
namespace Go.AM
open Go.Proofs
attribute [local irreducible] AWN NS AWO AWR AWC DR Weak iterQ
set_option maxRecDepth 100000
set_option maxHeartbeats 4000000
def lFnExactFormatSummary (a0 : TNetwork) : Option Bool :=
  Option.bind (lszNetwork a0 1048576) fun r1 => bif ltB r1 0 then (some true) else (Option.bind (ltoNetwork a0) fun r2 => Option.bind (sFormatSummary r2) fun r3 => Option.bind (ltoNetwork a0) fun r4 => Option.bind (iFormatSummary r4) fun r5 => bif !strB r5 r3 then (some false) else (Option.bind (ltoNetwork a0) fun r6 => Option.bind (leqNetwork r4 r6) fun r7 => bif !r7 then (some false) else (some true)))
theorem lFnExactFormatSummary_c {a0 : TNetwork} {r : Bool} (H : lFnExactFormatSummary a0 = some r) : Fn Tryz.prog 3 [.agg (eTNetwork a0)] [.c (.d (.b r))] := by
  refine fn_in Tryz.func3 rfl (by kernel_rfl) Tryz.ntmps3 rfl rfl rfl ?_
  refine wkd ?_
  obtain ⟨r1, hr1, H⟩ := ob H
  refine awr_n rfl (ca rfl rfl rfl (lszNetwork_c hr1) trivial rfl rfl rfl rfl) ?_
  refine wkd ?_
  refine awc_cond rfl (fun h => ?_) (fun h => ?_)
  · have H := bt h H
    refine wkd ?_
    cases H
    exact fin_ret (.cons (.tmp rfl) .nil) rfl rfl rfl
  · have H := bf h H
    refine wkd ?_
    obtain ⟨r2, hr2, H⟩ := ob H
    refine awr_step rfl (car rfl rfl rfl (ltoNetwork_c hr2) trivial rfl ⟨by first | rfl | exact lm _, by first | rfl | exact lm _, by first | rfl | exact lm _, by first | rfl | exact lm _, by first | rfl | exact lm _, trivial⟩ rfl rfl) ?_
    refine wkd ?_
    obtain ⟨r3, hr3, H⟩ := ob H
    refine awr_n rfl (ca rfl rfl rfl (sFormatSummary_c hr3) trivial rfl rfl rfl rfl) ?_
    refine wkd ?_
    obtain ⟨r4, hr4, H⟩ := ob H
    refine awr_step rfl (car rfl rfl rfl (ltoNetwork_c hr4) trivial rfl ⟨by first | rfl | exact lm _, by first | rfl | exact lm _, by first | rfl | exact lm _, by first | rfl | exact lm _, by first | rfl | exact lm _, trivial⟩ rfl rfl) ?_
    refine wkd ?_
    obtain ⟨r5, hr5, H⟩ := ob H
    refine awr_n rfl (ca rfl rfl rfl (iFormatSummary_c hr5) trivial rfl rfl rfl rfl) ?_
    refine wkd ?_
    refine awc_cond rfl (fun h => ?_) (fun h => ?_)
    · have H := bt h H
      refine wkd ?_
      cases H
      exact fin_ret (.cons (.tmp rfl) .nil) rfl rfl rfl
    · have H := bf h H
      refine wkd ?_
      obtain ⟨r6, hr6, H⟩ := ob H
      refine dr_n rfl (ca rfl rfl rfl (ltoNetwork_c hr6) trivial rfl rfl rfl rfl) ?_
      refine wkd ?_
      obtain ⟨r7, hr7, H⟩ := ob H
      refine dr_n rfl (ca rfl rfl rfl (leqNetwork_c hr7) ⟨by first | rfl | exact lm _, by first | rfl | exact lm _, by first | rfl | exact lm _, by first | rfl | exact lm _, by first | rfl | exact lm _, trivial⟩ rfl rfl rfl rfl) ?_
      refine wkd ?_
      refine awc_cond rfl (fun h => ?_) (fun h => ?_)
      · have H := bt h H
        refine wkd ?_
        cases H
        exact fin_ret (.cons (.tmp rfl) .nil) rfl rfl rfl
      · have H := bf h H
        refine wkd ?_
        cases H
        exact fin_ret (.cons (.tmp rfl) .nil) rfl rfl rfl
def lFnExactFormatFlights (a0 : TNetwork) : Option Bool :=
  Option.bind (lszNetwork a0 1048576) fun r1 => bif ltB r1 0 then (some true) else (Option.bind (ltoNetwork a0) fun r2 => Option.bind (sFormatFlights r2) fun r3 => Option.bind (ltoNetwork a0) fun r4 => Option.bind (iFormatFlights r4) fun r5 => bif !strB r5 r3 then (some false) else (Option.bind (ltoNetwork a0) fun r6 => Option.bind (leqNetwork r4 r6) fun r7 => bif !r7 then (some false) else (some true)))
theorem lFnExactFormatFlights_c {a0 : TNetwork} {r : Bool} (H : lFnExactFormatFlights a0 = some r) : Fn Tryz.prog 4 [.agg (eTNetwork a0)] [.c (.d (.b r))] := by
  refine fn_in Tryz.func4 rfl (by kernel_rfl) Tryz.ntmps4 rfl rfl rfl ?_
  refine wkd ?_
  obtain ⟨r1, hr1, H⟩ := ob H
  refine awr_n rfl (ca rfl rfl rfl (lszNetwork_c hr1) trivial rfl rfl rfl rfl) ?_
  refine wkd ?_
  refine awc_cond rfl (fun h => ?_) (fun h => ?_)
  · have H := bt h H
    refine wkd ?_
    cases H
    exact fin_ret (.cons (.tmp rfl) .nil) rfl rfl rfl
  · have H := bf h H
    refine wkd ?_
    obtain ⟨r2, hr2, H⟩ := ob H
    refine awr_step rfl (car rfl rfl rfl (ltoNetwork_c hr2) trivial rfl ⟨by first | rfl | exact lm _, by first | rfl | exact lm _, by first | rfl | exact lm _, by first | rfl | exact lm _, by first | rfl | exact lm _, trivial⟩ rfl rfl) ?_
    refine wkd ?_
    obtain ⟨r3, hr3, H⟩ := ob H
    refine awr_n rfl (ca rfl rfl rfl (sFormatFlights_c hr3) trivial rfl rfl rfl rfl) ?_
    refine wkd ?_
    obtain ⟨r4, hr4, H⟩ := ob H
    refine awr_step rfl (car rfl rfl rfl (ltoNetwork_c hr4) trivial rfl ⟨by first | rfl | exact lm _, by first | rfl | exact lm _, by first | rfl | exact lm _, by first | rfl | exact lm _, by first | rfl | exact lm _, trivial⟩ rfl rfl) ?_
    refine wkd ?_
    obtain ⟨r5, hr5, H⟩ := ob H
    refine awr_n rfl (ca rfl rfl rfl (iFormatFlights_c hr5) trivial rfl rfl rfl rfl) ?_
    refine wkd ?_
    refine awc_cond rfl (fun h => ?_) (fun h => ?_)
    · have H := bt h H
      refine wkd ?_
      cases H
      exact fin_ret (.cons (.tmp rfl) .nil) rfl rfl rfl
    · have H := bf h H
      refine wkd ?_
      obtain ⟨r6, hr6, H⟩ := ob H
      refine dr_n rfl (ca rfl rfl rfl (ltoNetwork_c hr6) trivial rfl rfl rfl rfl) ?_
      refine wkd ?_
      obtain ⟨r7, hr7, H⟩ := ob H
      refine dr_n rfl (ca rfl rfl rfl (leqNetwork_c hr7) ⟨by first | rfl | exact lm _, by first | rfl | exact lm _, by first | rfl | exact lm _, by first | rfl | exact lm _, by first | rfl | exact lm _, trivial⟩ rfl rfl rfl rfl) ?_
      refine wkd ?_
      refine awc_cond rfl (fun h => ?_) (fun h => ?_)
      · have H := bt h H
        refine wkd ?_
        cases H
        exact fin_ret (.cons (.tmp rfl) .nil) rfl rfl rfl
      · have H := bf h H
        refine wkd ?_
        cases H
        exact fin_ret (.cons (.tmp rfl) .nil) rfl rfl rfl
end Go.AM
