/-
  Own text: a part of the abstract machine for this seat (Qcm). No statement is proved here.
-/
import Derived.Test.YtnhgchfpccpcdaaHcm
import Derived.Test.YtnhgchfpccpcdaaPw
set_option linter.unusedVariables false
set_option linter.unusedSimpArgs false
namespace Go.AM
attribute [local simp] ltB_self eqB_refl ix_nat
theorem wtTSubscriberID {x : List D} (h0 : WTs [.i .i64, .i .i64] x) : ∃ a : TSubscriberID, x = eTSubscriberID a ∧ (fun _ => True) a := by
  obtain ⟨n0, r0, rfl, w0, h1⟩ := h0.gi
  obtain ⟨n1, r1, rfl, w1, h2⟩ := h1.gi
  obtain rfl := h2.gn
  exact ⟨⟨n0, n1⟩, rfl, trivial⟩
theorem wtTTempID {x : List D} (h0 : WTs [.i .i64, .i .i64] x) : ∃ a : TTempID, x = eTTempID a ∧ (fun _ => True) a := by
  obtain ⟨n0, r0, rfl, w0, h1⟩ := h0.gi
  obtain ⟨n1, r1, rfl, w1, h2⟩ := h1.gi
  obtain rfl := h2.gn
  exact ⟨⟨n0, n1⟩, rfl, trivial⟩
theorem wtTRegistration {x : List D} (h0 : WTs [.i .i64, .i .i64, .i .i64, .i .i64, .i .i64, .i .i64] x) : ∃ a : TRegistration, x = eTRegistration a ∧ (fun _ => True) a := by
  obtain ⟨n0, r0, rfl, w0, h1⟩ := h0.gi
  obtain ⟨n1, r1, rfl, w1, h2⟩ := h1.gi
  obtain ⟨n2, r2, rfl, w2, h3⟩ := h2.gi
  obtain ⟨n3, r3, rfl, w3, h4⟩ := h3.gi
  obtain ⟨n4, r4, rfl, w4, h5⟩ := h4.gi
  obtain ⟨n5, r5, rfl, w5, h6⟩ := h5.gi
  obtain rfl := h6.gn
  exact ⟨⟨⟨n0, n1⟩, n2, n3, ⟨n4, n5⟩⟩, rfl, trivial⟩
theorem psz_RegistrationS : Sz lszRegistrationS (okL (fun _ => True)) (preL (fun _ => True)) := sz_flat (fun _ _ => rfl)
theorem pto_SubscriberID : ∀ a, (fun _ => True) a → ltoSubscriberID a = some a := fun a h => by simp [ltoSubscriberID]
theorem pto_TempID : ∀ a, (fun _ => True) a → ltoTempID a = some a := fun a h => by simp [ltoTempID]
theorem pto_Registration : ∀ a, (fun _ => True) a → ltoRegistration a = some a := fun a h => by simp [ltoRegistration, pto_SubscriberID _ trivial, pto_TempID _ trivial]
theorem pto_RegistrationS : ∀ xs, okL (fun _ => True) xs → ltoRegistrationS xs = some xs := to_list (⟨⟨0, 0⟩, 0, 0, ⟨0, 0⟩⟩ : TRegistration) (by decide) pto_Registration (fun _ => rfl) (fun _ _ _ => rfl)
theorem peq_SubscriberID : ∀ a, (fun _ => True) a → leqSubscriberID a a = some true := fun a h => by simp [leqSubscriberID, eqB_refl, strB, booB]
theorem peq_TempID : ∀ a, (fun _ => True) a → leqTempID a a = some true := fun a h => by simp [leqTempID, eqB_refl, strB, booB]
theorem peq_Registration : ∀ a, (fun _ => True) a → leqRegistration a a = some true := fun a h => by simp [leqRegistration, eqB_refl, strB, booB, peq_SubscriberID _ trivial, peq_TempID _ trivial]
theorem peq_RegistrationS : ∀ xs, okL (fun _ => True) xs → leqRegistrationS xs xs = some true := eq_list peq_Registration (fun _ _ => rfl) (fun _ _ _ => rfl)
def gRegistrationS (k : Int) : TRegistration := (⟨(⟨k, k + 1⟩ : TSubscriberID), k + 2, k + 3, (⟨k + 4, k + 5⟩ : TTempID)⟩ : TRegistration)
theorem pmark_RegistrationS (xs : List TRegistration) (h : xs.length ≤ 1048576) : lmarkRegistrationS xs 1 = some (1 + (6 : Int) * (xs.length : Int), marks gRegistrationS 6 xs.length 1) := by
  have := mark_list gRegistrationS 6 (by decide) (L := lmarkRegistrationS_L1) (fun k i v hi hl h0 h1 => by
    have hw : ∀ j : Int, 0 ≤ j → j ≤ 100 → WR (k + j) = k + j := fun j h2 h3 => WR_in (by omega)
    simp [lmarkRegistrationS_L1, ltB_lt hi, ix_nat, List.getElem?_eq_getElem hi, hi, List.set_set, gRegistrationS, WR_succ (show i < 9223372036854775807 by omega), hw, Int.add_assoc]) (fun k v => by simp [lmarkRegistrationS_L1, ltB_self]) xs h
  unfold lmarkRegistrationS
  rw [this]; rfl
theorem pheld_RegistrationS (n : Nat) (h : n ≤ 1048576) : lheldRegistrationS (marks gRegistrationS 6 n 1) 1 = some (1 + (6 : Int) * (n : Int)) := by
  have := held_list gRegistrationS 6 (by decide) (L := lheldRegistrationS_L1) (fun xs k i hi h0 h1 h2 => by
    have hlt := (List.getElem?_eq_some_iff.1 hi).1
    have hw : ∀ j : Int, 0 ≤ j → j ≤ 100 → WR (k + j) = k + j := fun j h2 h3 => WR_in (by omega)
    simp [lheldRegistrationS_L1, ltB_lt hlt, ix_nat, hi, gRegistrationS, eqB_refl, WR_succ (show i < 9223372036854775807 by omega), hw, Int.add_assoc]) (fun xs k => by simp [lheldRegistrationS_L1, ltB_self]) n h
  exact this
theorem pz_RegistrationS : Mk lmarkRegistrationS_z (okL (fun _ => True)) 6291456 := by
  refine mk_list (L := lmarkRegistrationS_z_L1) (b := 6) (by decide) (by decide) (fun _ _ => rfl) (fun xs k => by simp [lmarkRegistrationS_z_L1, ltB_self]) (fun xs k i x hx hi hl hok h0 h1 => ?_)
  · skip
    refine ⟨k + 6, ?_, by omega, by omega⟩
    have hw : ∀ n : Int, 0 ≤ n → n ≤ 9223372036854775807 → WR n = n := fun n h h' => WR_in (by omega)
    simp (disch := omega) only [lmarkRegistrationS_z_L1, ltB_lt hi, ix_nat, hx, WR_succ (show i < 9223372036854775807 by omega), Option.bind_some, cond_true, hw, Int.add_assoc, Int.reduceAdd]
theorem psz_IntS : Sz lszIntS (okL (fun _ => True)) (preL (fun _ => True)) := sz_flat (fun _ _ => rfl)
theorem pto_IntS : ∀ xs, okL (fun _ => True) xs → ltoIntS xs = some xs := to_list (0 : Int) (by decide) (t := fun a => some a) (fun _ _ => rfl) (fun _ => rfl) (fun _ _ _ => rfl)
theorem peq_IntS : ∀ xs, okL (fun _ => True) xs → leqIntS xs xs = some true := eq_list (e := fun x y => some (eqB x y)) (fun _ _ => by simp [eqB_refl]) (fun _ _ => rfl) (fun _ _ _ => rfl)
def gIntS (k : Int) : Int := k
theorem pmark_IntS (xs : List Int) (h : xs.length ≤ 1048576) : lmarkIntS xs 1 = some (1 + (1 : Int) * (xs.length : Int), marks gIntS 1 xs.length 1) := by
  have := mark_list gIntS 1 (by decide) (L := lmarkIntS_L1) (fun k i v hi hl h0 h1 => by
    have hw : ∀ j : Int, 0 ≤ j → j ≤ 100 → WR (k + j) = k + j := fun j h2 h3 => WR_in (by omega)
    simp [lmarkIntS_L1, ltB_lt hi, ix_nat, List.getElem?_eq_getElem hi, hi, List.set_set, gIntS, WR_succ (show i < 9223372036854775807 by omega), hw, Int.add_assoc]) (fun k v => by simp [lmarkIntS_L1, ltB_self]) xs h
  unfold lmarkIntS
  rw [this]; rfl
theorem pz_IntS : Mk lmarkIntS_z (okL (fun _ => True)) 1048576 := by
  refine mk_list (L := lmarkIntS_z_L1) (b := 1) (by decide) (by decide) (fun _ _ => rfl) (fun xs k => by simp [lmarkIntS_z_L1, ltB_self]) (fun xs k i x hx hi hl hok h0 h1 => ?_)
  · skip
    refine ⟨k + 1, ?_, by omega, by omega⟩
    have hw : ∀ n : Int, 0 ≤ n → n ≤ 9223372036854775807 → WR n = n := fun n h h' => WR_in (by omega)
    simp (disch := omega) only [lmarkIntS_z_L1, ltB_lt hi, ix_nat, hx, WR_succ (show i < 9223372036854775807 by omega), Option.bind_some, cond_true, hw, Int.add_assoc, Int.reduceAdd]
def okTSubscription (a : TSubscription) : Prop := okL (fun _ => True) a.RoamingNetworks
def preTSubscription (a : TSubscription) : Prop := preL (fun _ => True) a.RoamingNetworks
theorem wtTSubscription {x : List D} (h0 : WTs [.i .i64, .i .i64, .i .i64, .l [.i .i64]] x) : ∃ a : TSubscription, x = eTSubscription a ∧ preTSubscription a := by
  obtain ⟨n0, r0, rfl, w0, h1⟩ := h0.gi
  obtain ⟨n1, r1, rfl, w1, h2⟩ := h1.gi
  obtain ⟨n2, r2, rfl, w2, h3⟩ := h2.gi
  obtain ⟨y3, r3, rfl, l3, w3, h4⟩ := h3.gl
  obtain ⟨n3, rfl, p3⟩ := WTL_map (f := eI) (p := (fun _ => True)) (fun x h => by obtain ⟨n, r, rfl, w, h⟩ := h.gi; obtain rfl := h.gn; exact ⟨n, rfl, trivial⟩) w3
  obtain rfl := h4.gn
  exact ⟨⟨n0, n1, n2, n3⟩, rfl, ⟨by simpa using l3, p3⟩⟩
theorem psz_Subscription : Sz lszSubscription okTSubscription preTSubscription := by
  intro a left hp h0 h1
  unfold lszSubscription
  obtain ⟨r0, a0, b0, c0⟩ := psz_IntS a.RoamingNetworks left hp h0 h1
  rcases c0 with ⟨c0, rfl⟩ | ⟨c0, d0, e0⟩
  · exact ⟨-1, by simp [a0, c0], by omega, .inl ⟨c0, rfl⟩⟩
  exact ⟨r0, by simp [a0, c0], b0, .inr ⟨c0, d0, e0⟩⟩
theorem pto_Subscription : ∀ a, okTSubscription a → ltoSubscription a = some a := fun a h => by simp [ltoSubscription, pto_IntS _ h]
theorem peq_Subscription : ∀ a, okTSubscription a → leqSubscription a a = some true := fun a h => by simp [leqSubscription, eqB_refl, strB, booB, peq_IntS _ h]
theorem pz_Subscription : Mk lmarkSubscription_z okTSubscription 1048576 := by
  intro a k h h0 h1
  obtain ⟨k0, e0, l0, u0⟩ := pz_IntS a.RoamingNetworks k h (by omega) (by omega)
  exact ⟨k0, by simp only [lmarkSubscription_z, e0, Option.bind_some], by omega, by omega⟩
theorem wtTRoamingAgreement {x : List D} (h0 : WTs [.i .i64, .i .i64, .i .i64, .i .i64] x) : ∃ a : TRoamingAgreement, x = eTRoamingAgreement a ∧ (fun _ => True) a := by
  obtain ⟨n0, r0, rfl, w0, h1⟩ := h0.gi
  obtain ⟨n1, r1, rfl, w1, h2⟩ := h1.gi
  obtain ⟨n2, r2, rfl, w2, h3⟩ := h2.gi
  obtain ⟨n3, r3, rfl, w3, h4⟩ := h3.gi
  obtain rfl := h4.gn
  exact ⟨⟨n0, n1, n2, n3⟩, rfl, trivial⟩
theorem psz_RoamingAgreementS : Sz lszRoamingAgreementS (okL (fun _ => True)) (preL (fun _ => True)) := sz_flat (fun _ _ => rfl)
theorem pto_RoamingAgreement : ∀ a, (fun _ => True) a → ltoRoamingAgreement a = some a := fun a h => by simp [ltoRoamingAgreement]
theorem pto_RoamingAgreementS : ∀ xs, okL (fun _ => True) xs → ltoRoamingAgreementS xs = some xs := to_list (⟨0, 0, 0, 0⟩ : TRoamingAgreement) (by decide) pto_RoamingAgreement (fun _ => rfl) (fun _ _ _ => rfl)
theorem peq_RoamingAgreement : ∀ a, (fun _ => True) a → leqRoamingAgreement a a = some true := fun a h => by simp [leqRoamingAgreement, eqB_refl, strB, booB]
theorem peq_RoamingAgreementS : ∀ xs, okL (fun _ => True) xs → leqRoamingAgreementS xs xs = some true := eq_list peq_RoamingAgreement (fun _ _ => rfl) (fun _ _ _ => rfl)
def gRoamingAgreementS (k : Int) : TRoamingAgreement := (⟨k, k + 1, k + 2, k + 3⟩ : TRoamingAgreement)
theorem pmark_RoamingAgreementS (xs : List TRoamingAgreement) (h : xs.length ≤ 1048576) : lmarkRoamingAgreementS xs 1 = some (1 + (4 : Int) * (xs.length : Int), marks gRoamingAgreementS 4 xs.length 1) := by
  have := mark_list gRoamingAgreementS 4 (by decide) (L := lmarkRoamingAgreementS_L1) (fun k i v hi hl h0 h1 => by
    have hw : ∀ j : Int, 0 ≤ j → j ≤ 100 → WR (k + j) = k + j := fun j h2 h3 => WR_in (by omega)
    simp [lmarkRoamingAgreementS_L1, ltB_lt hi, ix_nat, List.getElem?_eq_getElem hi, hi, List.set_set, gRoamingAgreementS, WR_succ (show i < 9223372036854775807 by omega), hw, Int.add_assoc]) (fun k v => by simp [lmarkRoamingAgreementS_L1, ltB_self]) xs h
  unfold lmarkRoamingAgreementS
  rw [this]; rfl
theorem pz_RoamingAgreementS : Mk lmarkRoamingAgreementS_z (okL (fun _ => True)) 4194304 := by
  refine mk_list (L := lmarkRoamingAgreementS_z_L1) (b := 4) (by decide) (by decide) (fun _ _ => rfl) (fun xs k => by simp [lmarkRoamingAgreementS_z_L1, ltB_self]) (fun xs k i x hx hi hl hok h0 h1 => ?_)
  · skip
    refine ⟨k + 4, ?_, by omega, by omega⟩
    have hw : ∀ n : Int, 0 ≤ n → n ≤ 9223372036854775807 → WR n = n := fun n h h' => WR_in (by omega)
    simp (disch := omega) only [lmarkRoamingAgreementS_z_L1, ltB_lt hi, ix_nat, hx, WR_succ (show i < 9223372036854775807 by omega), Option.bind_some, cond_true, hw, Int.add_assoc, Int.reduceAdd]
def okTRoamingResult (a : TRoamingResult) : Prop := okL (fun _ => True) a.Registrations
def preTRoamingResult (a : TRoamingResult) : Prop := preL (fun _ => True) a.Registrations
theorem wtTRoamingResult {x : List D} (h0 : WTs [.i .i64, .l [.i .i64, .i .i64, .i .i64, .i .i64, .i .i64, .i .i64], .i .i64, .i .i64, .i .i64] x) : ∃ a : TRoamingResult, x = eTRoamingResult a ∧ preTRoamingResult a := by
  obtain ⟨n0, r0, rfl, w0, h1⟩ := h0.gi
  obtain ⟨y1, r1, rfl, l1, w1, h2⟩ := h1.gl
  obtain ⟨n1, rfl, p1⟩ := WTL_map (f := eTRegistration) (p := (fun _ => True)) (fun _ h => wtTRegistration h) w1
  obtain ⟨n2, r2, rfl, w2, h3⟩ := h2.gi
  obtain ⟨n3, r3, rfl, w3, h4⟩ := h3.gi
  obtain ⟨n4, r4, rfl, w4, h5⟩ := h4.gi
  obtain rfl := h5.gn
  exact ⟨⟨n0, n1, n2, ⟨n3, n4⟩⟩, rfl, ⟨by simpa using l1, p1⟩⟩
theorem peq_RoamingResult : ∀ a, okTRoamingResult a → leqRoamingResult a a = some true := fun a h => by simp [leqRoamingResult, eqB_refl, strB, booB, peq_RegistrationS _ h, peq_TempID _ trivial]
theorem pz_RoamingResult : Mk lmarkRoamingResult_z okTRoamingResult 6291456 := by
  intro a k h h0 h1
  obtain ⟨k0, e0, l0, u0⟩ := pz_RegistrationS a.Registrations k h (by omega) (by omega)
  exact ⟨k0, by simp only [lmarkRoamingResult_z, e0, Option.bind_some], by omega, by omega⟩
end Go.AM
