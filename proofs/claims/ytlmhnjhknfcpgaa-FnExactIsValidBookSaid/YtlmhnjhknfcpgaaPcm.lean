/-
  Own text: a part of the abstract machine for this seat (Pcm). No statement is proved here.
-/
import Derived.Test.YtlmhnjhknfcpgaaGcm
import Derived.Test.YtlmhnjhknfcpgaaPv
set_option linter.unusedVariables false
set_option linter.unusedSimpArgs false
namespace Go.AM
attribute [local simp] ltB_self eqB_refl ix_nat
theorem wtTUsageRecord {x : List D} (h0 : WTs [.i .i64, .i .i64, .i .i64, .i .i64] x) : ∃ a : TUsageRecord, x = eTUsageRecord a ∧ (fun _ => True) a := by
  obtain ⟨n0, r0, rfl, w0, h1⟩ := h0.gi
  obtain ⟨n1, r1, rfl, w1, h2⟩ := h1.gi
  obtain ⟨n2, r2, rfl, w2, h3⟩ := h2.gi
  obtain ⟨n3, r3, rfl, w3, h4⟩ := h3.gi
  obtain rfl := h4.gn
  exact ⟨⟨n0, n1, n2, n3⟩, rfl, trivial⟩
theorem psz_UsageRecordS : Sz lszUsageRecordS (okL (fun _ => True)) (preL (fun _ => True)) := sz_flat (fun _ _ => rfl)
theorem pto_UsageRecord : ∀ a, (fun _ => True) a → ltoUsageRecord a = some a := fun a h => by simp [ltoUsageRecord]
theorem pto_UsageRecordS : ∀ xs, okL (fun _ => True) xs → ltoUsageRecordS xs = some xs := to_list (⟨0, 0, 0, 0⟩ : TUsageRecord) (by decide) pto_UsageRecord (fun _ => rfl) (fun _ _ _ => rfl)
theorem peq_UsageRecord : ∀ a, (fun _ => True) a → leqUsageRecord a a = some true := fun a h => by simp [leqUsageRecord, eqB_refl, strB]
theorem peq_UsageRecordS : ∀ xs, okL (fun _ => True) xs → leqUsageRecordS xs xs = some true := eq_list peq_UsageRecord (fun _ _ => rfl) (fun _ _ _ => rfl)
def okTOperatorBook (a : TOperatorBook) : Prop := okL (fun _ => True) a.Own ∧ okL (fun _ => True) a.Claims
def preTOperatorBook (a : TOperatorBook) : Prop := preL (fun _ => True) a.Own ∧ preL (fun _ => True) a.Claims
theorem wtTOperatorBook {x : List D} (h0 : WTs [.i .i64, .l [.i .i64, .i .i64, .i .i64, .i .i64], .l [.i .i64, .i .i64, .i .i64, .i .i64]] x) : ∃ a : TOperatorBook, x = eTOperatorBook a ∧ preTOperatorBook a := by
  obtain ⟨n0, r0, rfl, w0, h1⟩ := h0.gi
  obtain ⟨y1, r1, rfl, l1, w1, h2⟩ := h1.gl
  obtain ⟨n1, rfl, p1⟩ := WTL_map (f := eTUsageRecord) (p := (fun _ => True)) (fun _ h => wtTUsageRecord h) w1
  obtain ⟨y2, r2, rfl, l2, w2, h3⟩ := h2.gl
  obtain ⟨n2, rfl, p2⟩ := WTL_map (f := eTUsageRecord) (p := (fun _ => True)) (fun _ h => wtTUsageRecord h) w2
  obtain rfl := h3.gn
  exact ⟨⟨n0, n1, n2⟩, rfl, ⟨⟨by simpa using l1, p1⟩, ⟨by simpa using l2, p2⟩⟩⟩
theorem psz_OperatorBook : Sz lszOperatorBook okTOperatorBook preTOperatorBook := by
  intro a left hp h0 h1
  unfold lszOperatorBook
  obtain ⟨r0, a0, b0, c0⟩ := psz_UsageRecordS a.Own left hp.1 h0 h1
  rcases c0 with ⟨c0, rfl⟩ | ⟨c0, d0, e0⟩
  · exact ⟨-1, by simp [a0, c0], by omega, .inl ⟨c0, rfl⟩⟩
  obtain ⟨r1, a1, b1, c1⟩ := psz_UsageRecordS a.Claims r0 hp.2 d0 b0
  rcases c1 with ⟨c1, rfl⟩ | ⟨c1, d1, e1⟩
  · exact ⟨-1, by simp [a0, c0, a1, c1], by omega, .inl ⟨c1, rfl⟩⟩
  exact ⟨r1, by simp [a0, c0, a1, c1], b1, .inr ⟨c1, d1, e0, e1⟩⟩
theorem pto_OperatorBook : ∀ a, okTOperatorBook a → ltoOperatorBook a = some a := fun a h => by simp [ltoOperatorBook, pto_UsageRecordS _ h.1, pto_UsageRecordS _ h.2]
theorem peq_OperatorBook : ∀ a, okTOperatorBook a → leqOperatorBook a a = some true := fun a h => by simp [leqOperatorBook, eqB_refl, strB, peq_UsageRecordS _ h.1, peq_UsageRecordS _ h.2]
def okTKeyPath (a : TKeyPath) : Prop := okL (fun _ => True) a.Steps
def preTKeyPath (a : TKeyPath) : Prop := preL (fun _ => True) a.Steps
theorem wtTKeyPath {x : List D} (h0 : WTs [.l [.i .i64]] x) : ∃ a : TKeyPath, x = eTKeyPath a ∧ preTKeyPath a := by
  obtain ⟨y0, r0, rfl, l0, w0, h1⟩ := h0.gl
  obtain ⟨n0, rfl, p0⟩ := WTL_map (f := eI) (p := (fun _ => True)) (fun x h => by obtain ⟨n, r, rfl, w, h⟩ := h.gi; obtain rfl := h.gn; exact ⟨n, rfl, trivial⟩) w0
  obtain rfl := h1.gn
  exact ⟨⟨n0⟩, rfl, ⟨by simpa using l0, p0⟩⟩
def okTLeakedKey (a : TLeakedKey) : Prop := okTKeyPath a.Path
def preTLeakedKey (a : TLeakedKey) : Prop := preTKeyPath a.Path
theorem wtTLeakedKey {x : List D} (h0 : WTs [.i .i64, .l [.i .i64]] x) : ∃ a : TLeakedKey, x = eTLeakedKey a ∧ preTLeakedKey a := by
  obtain ⟨n0, r0, rfl, w0, h1⟩ := h0.gi
  obtain ⟨y1, r1, rfl, l1, w1, h2⟩ := h1.gl
  obtain ⟨n1, rfl, p1⟩ := WTL_map (f := eI) (p := (fun _ => True)) (fun x h => by obtain ⟨n, r, rfl, w, h⟩ := h.gi; obtain rfl := h.gn; exact ⟨n, rfl, trivial⟩) w1
  obtain rfl := h2.gn
  exact ⟨⟨n0, ⟨n1⟩⟩, rfl, ⟨by simpa using l1, p1⟩⟩
theorem psz_IntS : Sz lszIntS (okL (fun _ => True)) (preL (fun _ => True)) := sz_flat (fun _ _ => rfl)
theorem psz_KeyPath : Sz lszKeyPath okTKeyPath preTKeyPath := by
  intro a left hp h0 h1
  unfold lszKeyPath
  obtain ⟨r0, a0, b0, c0⟩ := psz_IntS a.Steps left hp h0 h1
  rcases c0 with ⟨c0, rfl⟩ | ⟨c0, d0, e0⟩
  · exact ⟨-1, by simp [a0, c0], by omega, .inl ⟨c0, rfl⟩⟩
  exact ⟨r0, by simp [a0, c0], b0, .inr ⟨c0, d0, e0⟩⟩
theorem psz_LeakedKey : Sz lszLeakedKey okTLeakedKey preTLeakedKey := by
  intro a left hp h0 h1
  unfold lszLeakedKey
  obtain ⟨r0, a0, b0, c0⟩ := psz_KeyPath a.Path left hp h0 h1
  rcases c0 with ⟨c0, rfl⟩ | ⟨c0, d0, e0⟩
  · exact ⟨-1, by simp [a0, c0], by omega, .inl ⟨c0, rfl⟩⟩
  exact ⟨r0, by simp [a0, c0], b0, .inr ⟨c0, d0, e0⟩⟩
theorem psz_LeakedKeyS : Sz lszLeakedKeyS (okL okTLeakedKey) (preL preTLeakedKey) := sz_list psz_LeakedKey (fun _ _ => rfl) (fun _ _ _ => rfl)
theorem pto_IntS : ∀ xs, okL (fun _ => True) xs → ltoIntS xs = some xs := to_list (0 : Int) (by decide) (t := fun a => some a) (fun _ _ => rfl) (fun _ => rfl) (fun _ _ _ => rfl)
theorem pto_KeyPath : ∀ a, okTKeyPath a → ltoKeyPath a = some a := fun a h => by simp [ltoKeyPath, pto_IntS _ h]
theorem pto_LeakedKey : ∀ a, okTLeakedKey a → ltoLeakedKey a = some a := fun a h => by simp [ltoLeakedKey, pto_KeyPath _ h]
theorem pto_LeakedKeyS : ∀ xs, okL okTLeakedKey xs → ltoLeakedKeyS xs = some xs := to_list (⟨0, ⟨[]⟩⟩ : TLeakedKey) (by decide) pto_LeakedKey (fun _ => rfl) (fun _ _ _ => rfl)
theorem peq_IntS : ∀ xs, okL (fun _ => True) xs → leqIntS xs xs = some true := eq_list (e := fun x y => some (eqB x y)) (fun _ _ => by simp [eqB_refl]) (fun _ _ => rfl) (fun _ _ _ => rfl)
theorem peq_KeyPath : ∀ a, okTKeyPath a → leqKeyPath a a = some true := fun a h => by simp [leqKeyPath, eqB_refl, strB, peq_IntS _ h]
theorem peq_LeakedKey : ∀ a, okTLeakedKey a → leqLeakedKey a a = some true := fun a h => by simp [leqLeakedKey, eqB_refl, strB, peq_KeyPath _ h]
theorem peq_LeakedKeyS : ∀ xs, okL okTLeakedKey xs → leqLeakedKeyS xs xs = some true := eq_list peq_LeakedKey (fun _ _ => rfl) (fun _ _ _ => rfl)
theorem wtTSubscriberID {x : List D} (h0 : WTs [.i .i64, .i .i64] x) : ∃ a : TSubscriberID, x = eTSubscriberID a ∧ (fun _ => True) a := by
  obtain ⟨n0, r0, rfl, w0, h1⟩ := h0.gi
  obtain ⟨n1, r1, rfl, w1, h2⟩ := h1.gi
  obtain rfl := h2.gn
  exact ⟨⟨n0, n1⟩, rfl, trivial⟩
theorem pto_SubscriberID : ∀ a, (fun _ => True) a → ltoSubscriberID a = some a := fun a h => by simp [ltoSubscriberID]
def okTSubscription (a : TSubscription) : Prop := okL (fun _ => True) a.RoamingNetworks
def preTSubscription (a : TSubscription) : Prop := preL (fun _ => True) a.RoamingNetworks
theorem wtTSubscription {x : List D} (h0 : WTs [.i .i64, .i .i64, .i .i64, .l [.i .i64]] x) : ∃ a : TSubscription, x = eTSubscription a ∧ preTSubscription a := by
  obtain ⟨n0, r0, rfl, w0, h1⟩ := h0.gi
  obtain ⟨n1, r1, rfl, w1, h2⟩ := h1.gi
  obtain ⟨n2, r2, rfl, w2, h3⟩ := h2.gi
  obtain ⟨y3, r3, rfl, l3, w3, h4⟩ := h3.gl
  obtain ⟨n3, rfl, p3⟩ := WTL_map (f := eI) (p := (fun _ => True)) (fun x h => by obtain ⟨n, r, rfl, w, h⟩ := h.gi; obtain rfl := h.gn; exact ⟨n, rfl, trivial⟩) w3
  obtain rfl := h4.gn
  exact ⟨⟨n0, n1, n2, n3⟩, rfl, ⟨by simpa using l3, p3⟩⟩
theorem psz_Subscription : Sz lszSubscription okTSubscription preTSubscription := by
  intro a left hp h0 h1
  unfold lszSubscription
  obtain ⟨r0, a0, b0, c0⟩ := psz_IntS a.RoamingNetworks left hp h0 h1
  rcases c0 with ⟨c0, rfl⟩ | ⟨c0, d0, e0⟩
  · exact ⟨-1, by simp [a0, c0], by omega, .inl ⟨c0, rfl⟩⟩
  exact ⟨r0, by simp [a0, c0], b0, .inr ⟨c0, d0, e0⟩⟩
theorem pto_Subscription : ∀ a, okTSubscription a → ltoSubscription a = some a := fun a h => by simp [ltoSubscription, pto_IntS _ h]
theorem peq_Subscription : ∀ a, okTSubscription a → leqSubscription a a = some true := fun a h => by simp [leqSubscription, eqB_refl, strB, peq_IntS _ h]
theorem wtTRoamingAgreement {x : List D} (h0 : WTs [.i .i64, .i .i64, .i .i64, .i .i64] x) : ∃ a : TRoamingAgreement, x = eTRoamingAgreement a ∧ (fun _ => True) a := by
  obtain ⟨n0, r0, rfl, w0, h1⟩ := h0.gi
  obtain ⟨n1, r1, rfl, w1, h2⟩ := h1.gi
  obtain ⟨n2, r2, rfl, w2, h3⟩ := h2.gi
  obtain ⟨n3, r3, rfl, w3, h4⟩ := h3.gi
  obtain rfl := h4.gn
  exact ⟨⟨n0, n1, n2, n3⟩, rfl, trivial⟩
theorem psz_RoamingAgreementS : Sz lszRoamingAgreementS (okL (fun _ => True)) (preL (fun _ => True)) := sz_flat (fun _ _ => rfl)
theorem pto_RoamingAgreement : ∀ a, (fun _ => True) a → ltoRoamingAgreement a = some a := fun a h => by simp [ltoRoamingAgreement]
theorem pto_RoamingAgreementS : ∀ xs, okL (fun _ => True) xs → ltoRoamingAgreementS xs = some xs := to_list (⟨0, 0, 0, 0⟩ : TRoamingAgreement) (by decide) pto_RoamingAgreement (fun _ => rfl) (fun _ _ _ => rfl)
theorem peq_RoamingAgreement : ∀ a, (fun _ => True) a → leqRoamingAgreement a a = some true := fun a h => by simp [leqRoamingAgreement, eqB_refl, strB]
theorem peq_RoamingAgreementS : ∀ xs, okL (fun _ => True) xs → leqRoamingAgreementS xs xs = some true := eq_list peq_RoamingAgreement (fun _ _ => rfl) (fun _ _ _ => rfl)
end Go.AM
