/-
  Own text: a part of the abstract machine for this seat (Pam). No statement is proved here.
-/
import Derived.Test.YtlmhnjhknfcpgaaGam
import Derived.Test.YtlmhnjhknfcpgaaPv
set_option linter.unusedVariables false
set_option linter.unusedSimpArgs false
namespace Go.AM
attribute [local simp] ltB_self eqB_refl ix_nat
theorem wtTSubscriberID {x : List D} (h : WTs [.i .i64, .i .i64] x) : ∃ a : TSubscriberID, x = eTSubscriberID a ∧ (fun _ => True) a := by
  obtain ⟨n0, r, rfl, w0, h⟩ := h.gi
  obtain ⟨n1, r, rfl, w1, h⟩ := h.gi
  obtain rfl := h.gn
  exact ⟨⟨n0, n1⟩, rfl, trivial⟩
theorem wtTTempID {x : List D} (h : WTs [.i .i64, .i .i64] x) : ∃ a : TTempID, x = eTTempID a ∧ (fun _ => True) a := by
  obtain ⟨n0, r, rfl, w0, h⟩ := h.gi
  obtain ⟨n1, r, rfl, w1, h⟩ := h.gi
  obtain rfl := h.gn
  exact ⟨⟨n0, n1⟩, rfl, trivial⟩
theorem wtTRegistration {x : List D} (h : WTs [.i .i64, .i .i64, .i .i64, .i .i64, .i .i64, .i .i64] x) : ∃ a : TRegistration, x = eTRegistration a ∧ (fun _ => True) a := by
  obtain ⟨n0, r, rfl, w0, h⟩ := h.gi
  obtain ⟨n1, r, rfl, w1, h⟩ := h.gi
  obtain ⟨n2, r, rfl, w2, h⟩ := h.gi
  obtain ⟨n3, r, rfl, w3, h⟩ := h.gi
  obtain ⟨n4, r, rfl, w4, h⟩ := h.gi
  obtain ⟨n5, r, rfl, w5, h⟩ := h.gi
  obtain rfl := h.gn
  exact ⟨⟨⟨n0, n1⟩, n2, n3, ⟨n4, n5⟩⟩, rfl, trivial⟩
theorem psz_RegistrationS : Sz lszRegistrationS (okL (fun _ => True)) (preL (fun _ => True)) := sz_flat (fun _ _ => rfl)
theorem pto_SubscriberID : ∀ a, (fun _ => True) a → ltoSubscriberID a = some a := fun a h => by simp [ltoSubscriberID]
theorem pto_TempID : ∀ a, (fun _ => True) a → ltoTempID a = some a := fun a h => by simp [ltoTempID]
theorem pto_Registration : ∀ a, (fun _ => True) a → ltoRegistration a = some a := fun a h => by simp [ltoRegistration, pto_SubscriberID _ trivial, pto_TempID _ trivial]
theorem pto_RegistrationS : ∀ xs, okL (fun _ => True) xs → ltoRegistrationS xs = some xs := to_list (⟨⟨0, 0⟩, 0, 0, ⟨0, 0⟩⟩ : TRegistration) (by decide) pto_Registration (fun _ => rfl) (fun _ _ _ => rfl)
theorem peq_SubscriberID : ∀ a, (fun _ => True) a → leqSubscriberID a a = some true := fun a h => by simp [leqSubscriberID, eqB_refl, strB]
theorem peq_TempID : ∀ a, (fun _ => True) a → leqTempID a a = some true := fun a h => by simp [leqTempID, eqB_refl, strB]
theorem peq_Registration : ∀ a, (fun _ => True) a → leqRegistration a a = some true := fun a h => by simp [leqRegistration, eqB_refl, strB, peq_SubscriberID _ trivial, peq_TempID _ trivial]
theorem peq_RegistrationS : ∀ xs, okL (fun _ => True) xs → leqRegistrationS xs xs = some true := eq_list peq_Registration (fun _ _ => rfl) (fun _ _ _ => rfl)
def gRegistrationS (k : Int) : TRegistration := (⟨(⟨k, k + 1⟩ : TSubscriberID), k + 2, k + 3, (⟨k + 4, k + 5⟩ : TTempID)⟩ : TRegistration)
theorem pmark_RegistrationS (xs : List TRegistration) (h : xs.length ≤ 1048576) : lmarkRegistrationS xs 1 = some (1 + (6 : Int) * (xs.length : Int), marks gRegistrationS 6 xs.length 1) := by
  have := mark_list gRegistrationS 6 (by decide) (L := lmarkRegistrationS_L1) (fun k i v hi hl h0 h1 => by
    have hw : ∀ j : Int, 0 ≤ j → j ≤ 100 → WR (k + j) = k + j := fun j h2 h3 => WR_in (by omega)
    simp [lmarkRegistrationS_L1, ltB_lt hi, ix_nat, List.getElem?_eq_getElem hi, hi, List.set_set, gRegistrationS, WR_succ (show i < 9223372036854775807 by omega), hw, Int.add_assoc]) (fun k v => by simp [lmarkRegistrationS_L1, ltB_self]) xs h
  unfold lmarkRegistrationS
  rw [this]; rfl
theorem peq_TempIDS : ∀ xs, okL (fun _ => True) xs → leqTempIDS xs xs = some true := eq_list peq_TempID (fun _ _ => rfl) (fun _ _ _ => rfl)
def gTempIDS (k : Int) : TTempID := (⟨k, k + 1⟩ : TTempID)
theorem pmark_TempIDS (xs : List TTempID) (h : xs.length ≤ 1048576) : lmarkTempIDS xs 1 = some (1 + (2 : Int) * (xs.length : Int), marks gTempIDS 2 xs.length 1) := by
  have := mark_list gTempIDS 2 (by decide) (L := lmarkTempIDS_L1) (fun k i v hi hl h0 h1 => by
    have hw : ∀ j : Int, 0 ≤ j → j ≤ 100 → WR (k + j) = k + j := fun j h2 h3 => WR_in (by omega)
    simp [lmarkTempIDS_L1, ltB_lt hi, ix_nat, List.getElem?_eq_getElem hi, hi, List.set_set, gTempIDS, WR_succ (show i < 9223372036854775807 by omega), hw, Int.add_assoc]) (fun k v => by simp [lmarkTempIDS_L1, ltB_self]) xs h
  unfold lmarkTempIDS
  rw [this]; rfl
theorem pheld_TempIDS (n : Nat) (h : n ≤ 1048576) : lheldTempIDS (marks gTempIDS 2 n 1) 1 = some (1 + (2 : Int) * (n : Int)) := by
  have := held_list gTempIDS 2 (by decide) (L := lheldTempIDS_L1) (fun xs k i hi h0 h1 h2 => by
    have hlt := (List.getElem?_eq_some_iff.1 hi).1
    have hw : ∀ j : Int, 0 ≤ j → j ≤ 100 → WR (k + j) = k + j := fun j h2 h3 => WR_in (by omega)
    simp [lheldTempIDS_L1, ltB_lt hlt, ix_nat, hi, gTempIDS, eqB_refl, WR_succ (show i < 9223372036854775807 by omega), hw, Int.add_assoc]) (fun xs k => by simp [lheldTempIDS_L1, ltB_self]) n h
  exact this
theorem peq_SubscriberIDS : ∀ xs, okL (fun _ => True) xs → leqSubscriberIDS xs xs = some true := eq_list peq_SubscriberID (fun _ _ => rfl) (fun _ _ _ => rfl)
def gSubscriberIDS (k : Int) : TSubscriberID := (⟨k, k + 1⟩ : TSubscriberID)
theorem pmark_SubscriberIDS (xs : List TSubscriberID) (h : xs.length ≤ 1048576) : lmarkSubscriberIDS xs 1 = some (1 + (2 : Int) * (xs.length : Int), marks gSubscriberIDS 2 xs.length 1) := by
  have := mark_list gSubscriberIDS 2 (by decide) (L := lmarkSubscriberIDS_L1) (fun k i v hi hl h0 h1 => by
    have hw : ∀ j : Int, 0 ≤ j → j ≤ 100 → WR (k + j) = k + j := fun j h2 h3 => WR_in (by omega)
    simp [lmarkSubscriberIDS_L1, ltB_lt hi, ix_nat, List.getElem?_eq_getElem hi, hi, List.set_set, gSubscriberIDS, WR_succ (show i < 9223372036854775807 by omega), hw, Int.add_assoc]) (fun k v => by simp [lmarkSubscriberIDS_L1, ltB_self]) xs h
  unfold lmarkSubscriberIDS
  rw [this]; rfl
theorem pheld_SubscriberIDS (n : Nat) (h : n ≤ 1048576) : lheldSubscriberIDS (marks gSubscriberIDS 2 n 1) 1 = some (1 + (2 : Int) * (n : Int)) := by
  have := held_list gSubscriberIDS 2 (by decide) (L := lheldSubscriberIDS_L1) (fun xs k i hi h0 h1 h2 => by
    have hlt := (List.getElem?_eq_some_iff.1 hi).1
    have hw : ∀ j : Int, 0 ≤ j → j ≤ 100 → WR (k + j) = k + j := fun j h2 h3 => WR_in (by omega)
    simp [lheldSubscriberIDS_L1, ltB_lt hlt, ix_nat, hi, gSubscriberIDS, eqB_refl, WR_succ (show i < 9223372036854775807 by omega), hw, Int.add_assoc]) (fun xs k => by simp [lheldSubscriberIDS_L1, ltB_self]) n h
  exact this
end Go.AM
