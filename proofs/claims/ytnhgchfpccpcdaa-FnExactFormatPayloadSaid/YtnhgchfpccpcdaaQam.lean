/-
  Own text: a part of the abstract machine for this seat (Qam). No statement is proved here.
-/
import Derived.Test.YtnhgchfpccpcdaaHam
import Derived.Test.YtnhgchfpccpcdaaPw
set_option linter.unusedVariables false
set_option linter.unusedSimpArgs false
namespace Go.AM
attribute [local simp] ltB_self eqB_refl ix_nat
theorem pto_ByteS : ∀ xs, okL (fun _ => True) xs → ltoByteS xs = some xs := to_list (0 : Int) (by decide) (t := fun a => some a) (fun _ _ => rfl) (fun _ => rfl) (fun _ _ _ => rfl)
theorem peq_ByteS : ∀ xs, okL (fun _ => True) xs → leqByteS xs xs = some true := eq_list (e := fun x y => some (eqB x y)) (fun _ _ => by simp [eqB_refl]) (fun _ _ => rfl) (fun _ _ _ => rfl)
theorem wtTStatementLine {x : List D} (h0 : WTs [.i .i64, .i .i64, .i .i64] x) : ∃ a : TStatementLine, x = eTStatementLine a ∧ (fun _ => True) a := by
  obtain ⟨n0, r0, rfl, w0, h1⟩ := h0.gi
  obtain ⟨n1, r1, rfl, w1, h2⟩ := h1.gi
  obtain ⟨n2, r2, rfl, w2, h3⟩ := h2.gi
  obtain rfl := h3.gn
  exact ⟨⟨n0, n1, n2⟩, rfl, trivial⟩
theorem peq_StatementLine : ∀ a, (fun _ => True) a → leqStatementLine a a = some true := fun a h => by simp [leqStatementLine, eqB_refl, strB, booB]
theorem peq_StatementLineS : ∀ xs, okL (fun _ => True) xs → leqStatementLineS xs xs = some true := eq_list peq_StatementLine (fun _ _ => rfl) (fun _ _ _ => rfl)
def gStatementLineS (k : Int) : TStatementLine := (⟨k, k + 1, k + 2⟩ : TStatementLine)
theorem pmark_StatementLineS (xs : List TStatementLine) (h : xs.length ≤ 1048576) : lmarkStatementLineS xs 1 = some (1 + (3 : Int) * (xs.length : Int), marks gStatementLineS 3 xs.length 1) := by
  have := mark_list gStatementLineS 3 (by decide) (L := lmarkStatementLineS_L1) (fun k i v hi hl h0 h1 => by
    have hw : ∀ j : Int, 0 ≤ j → j ≤ 100 → WR (k + j) = k + j := fun j h2 h3 => WR_in (by omega)
    simp [lmarkStatementLineS_L1, ltB_lt hi, ix_nat, List.getElem?_eq_getElem hi, hi, List.set_set, gStatementLineS, WR_succ (show i < 9223372036854775807 by omega), hw, Int.add_assoc]) (fun k v => by simp [lmarkStatementLineS_L1, ltB_self]) xs h
  unfold lmarkStatementLineS
  rw [this]; rfl
theorem pheld_StatementLineS (n : Nat) (h : n ≤ 1048576) : lheldStatementLineS (marks gStatementLineS 3 n 1) 1 = some (1 + (3 : Int) * (n : Int)) := by
  have := held_list gStatementLineS 3 (by decide) (L := lheldStatementLineS_L1) (fun xs k i hi h0 h1 h2 => by
    have hlt := (List.getElem?_eq_some_iff.1 hi).1
    have hw : ∀ j : Int, 0 ≤ j → j ≤ 100 → WR (k + j) = k + j := fun j h2 h3 => WR_in (by omega)
    simp [lheldStatementLineS_L1, ltB_lt hlt, ix_nat, hi, gStatementLineS, eqB_refl, WR_succ (show i < 9223372036854775807 by omega), hw, Int.add_assoc]) (fun xs k => by simp [lheldStatementLineS_L1, ltB_self]) n h
  exact this
theorem pz_StatementLineS : Mk lmarkStatementLineS_z (okL (fun _ => True)) 3145728 := by
  refine mk_list (L := lmarkStatementLineS_z_L1) (b := 3) (by decide) (by decide) (fun _ _ => rfl) (fun xs k => by simp [lmarkStatementLineS_z_L1, ltB_self]) (fun xs k i x hx hi hl hok h0 h1 => ?_)
  · skip
    refine ⟨k + 3, ?_, by omega, by omega⟩
    have hw : ∀ n : Int, 0 ≤ n → n ≤ 9223372036854775807 → WR n = n := fun n h h' => WR_in (by omega)
    simp (disch := omega) only [lmarkStatementLineS_z_L1, ltB_lt hi, ix_nat, hx, WR_succ (show i < 9223372036854775807 by omega), Option.bind_some, cond_true, hw, Int.add_assoc, Int.reduceAdd]
theorem psz_IntS : Sz lszIntS (okL (fun _ => True)) (preL (fun _ => True)) := sz_flat (fun _ _ => rfl)
theorem pto_IntS : ∀ xs, okL (fun _ => True) xs → ltoIntS xs = some xs := to_list (0 : Int) (by decide) (t := fun a => some a) (fun _ _ => rfl) (fun _ => rfl) (fun _ _ _ => rfl)
theorem peq_IntS : ∀ xs, okL (fun _ => True) xs → leqIntS xs xs = some true := eq_list (e := fun x y => some (eqB x y)) (fun _ _ => by simp [eqB_refl]) (fun _ _ => rfl) (fun _ _ _ => rfl)
def gIntS (k : Int) : Int := k
theorem pmark_IntS (xs : List Int) (h : xs.length ≤ 1048576) : lmarkIntS xs 1 = some (1 + (1 : Int) * (xs.length : Int), marks gIntS 1 xs.length 1) := by
  have := mark_list gIntS 1 (by decide) (L := lmarkIntS_L1) (fun k i v hi hl h0 h1 => by
    have hw : ∀ j : Int, 0 ≤ j → j ≤ 100 → WR (k + j) = k + j := fun j h2 h3 => WR_in (by omega)
    simp [lmarkIntS_L1, ltB_lt hi, ix_nat, List.getElem?_eq_getElem hi, hi, List.set_set, gIntS, WR_succ (show i < 9223372036854775807 by omega), hw, Int.add_assoc]) (fun k v => by simp [lmarkIntS_L1, ltB_self]) xs h
  unfold lmarkIntS
  rw [this]; rfl
theorem pheld_IntS (n : Nat) (h : n ≤ 1048576) : lheldIntS (marks gIntS 1 n 1) 1 = some (1 + (1 : Int) * (n : Int)) := by
  have := held_list gIntS 1 (by decide) (L := lheldIntS_L1) (fun xs k i hi h0 h1 h2 => by
    have hlt := (List.getElem?_eq_some_iff.1 hi).1
    have hw : ∀ j : Int, 0 ≤ j → j ≤ 100 → WR (k + j) = k + j := fun j h2 h3 => WR_in (by omega)
    simp [lheldIntS_L1, ltB_lt hlt, ix_nat, hi, gIntS, eqB_refl, WR_succ (show i < 9223372036854775807 by omega), hw, Int.add_assoc]) (fun xs k => by simp [lheldIntS_L1, ltB_self]) n h
  exact this
theorem pz_IntS : Mk lmarkIntS_z (okL (fun _ => True)) 1048576 := by
  refine mk_list (L := lmarkIntS_z_L1) (b := 1) (by decide) (by decide) (fun _ _ => rfl) (fun xs k => by simp [lmarkIntS_z_L1, ltB_self]) (fun xs k i x hx hi hl hok h0 h1 => ?_)
  · skip
    refine ⟨k + 1, ?_, by omega, by omega⟩
    have hw : ∀ n : Int, 0 ≤ n → n ≤ 9223372036854775807 → WR n = n := fun n h h' => WR_in (by omega)
    simp (disch := omega) only [lmarkIntS_z_L1, ltB_lt hi, ix_nat, hx, WR_succ (show i < 9223372036854775807 by omega), Option.bind_some, cond_true, hw, Int.add_assoc, Int.reduceAdd]
theorem wtTRoamingAgreement {x : List D} (h0 : WTs [.i .i64, .i .i64, .i .i64, .i .i64] x) : ∃ a : TRoamingAgreement, x = eTRoamingAgreement a ∧ (fun _ => True) a := by
  obtain ⟨n0, r0, rfl, w0, h1⟩ := h0.gi
  obtain ⟨n1, r1, rfl, w1, h2⟩ := h1.gi
  obtain ⟨n2, r2, rfl, w2, h3⟩ := h2.gi
  obtain ⟨n3, r3, rfl, w3, h4⟩ := h3.gi
  obtain rfl := h4.gn
  exact ⟨⟨n0, n1, n2, n3⟩, rfl, trivial⟩
theorem psz_RoamingAgreementS : Sz lszRoamingAgreementS (okL (fun _ => True)) (preL (fun _ => True)) := sz_flat (fun _ _ => rfl)
theorem pto_RoamingAgreement : ∀ a, (fun _ => True) a → ltoRoamingAgreement a = some a := fun a h => by simp [ltoRoamingAgreement]
theorem pto_RoamingAgreementS : ∀ xs, okL (fun _ => True) xs → ltoRoamingAgreementS xs = some xs := to_list (⟨0, 0, 0, 0⟩ : TRoamingAgreement) (by decide) pto_RoamingAgreement (fun _ => rfl) (fun _ _ _ => rfl)
theorem peq_RoamingAgreement : ∀ a, (fun _ => True) a → leqRoamingAgreement a a = some true := fun a h => by simp [leqRoamingAgreement, eqB_refl, strB, booB]
theorem peq_RoamingAgreementS : ∀ xs, okL (fun _ => True) xs → leqRoamingAgreementS xs xs = some true := eq_list peq_RoamingAgreement (fun _ _ => rfl) (fun _ _ _ => rfl)
def gRoamingAgreementS (k : Int) : TRoamingAgreement := (⟨k, k + 1, k + 2, k + 3⟩ : TRoamingAgreement)
theorem pmark_RoamingAgreementS (xs : List TRoamingAgreement) (h : xs.length ≤ 1048576) : lmarkRoamingAgreementS xs 1 = some (1 + (4 : Int) * (xs.length : Int), marks gRoamingAgreementS 4 xs.length 1) := by
  have := mark_list gRoamingAgreementS 4 (by decide) (L := lmarkRoamingAgreementS_L1) (fun k i v hi hl h0 h1 => by
    have hw : ∀ j : Int, 0 ≤ j → j ≤ 100 → WR (k + j) = k + j := fun j h2 h3 => WR_in (by omega)
    simp [lmarkRoamingAgreementS_L1, ltB_lt hi, ix_nat, List.getElem?_eq_getElem hi, hi, List.set_set, gRoamingAgreementS, WR_succ (show i < 9223372036854775807 by omega), hw, Int.add_assoc]) (fun k v => by simp [lmarkRoamingAgreementS_L1, ltB_self]) xs h
  unfold lmarkRoamingAgreementS
  rw [this]; rfl
theorem pz_RoamingAgreementS : Mk lmarkRoamingAgreementS_z (okL (fun _ => True)) 4194304 := by
  refine mk_list (L := lmarkRoamingAgreementS_z_L1) (b := 4) (by decide) (by decide) (fun _ _ => rfl) (fun xs k => by simp [lmarkRoamingAgreementS_z_L1, ltB_self]) (fun xs k i x hx hi hl hok h0 h1 => ?_)
  · skip
    refine ⟨k + 4, ?_, by omega, by omega⟩
    have hw : ∀ n : Int, 0 ≤ n → n ≤ 9223372036854775807 → WR n = n := fun n h h' => WR_in (by omega)
    simp (disch := omega) only [lmarkRoamingAgreementS_z_L1, ltB_lt hi, ix_nat, hx, WR_succ (show i < 9223372036854775807 by omega), Option.bind_some, cond_true, hw, Int.add_assoc, Int.reduceAdd]
def okTKeyPath (a : TKeyPath) : Prop := okL (fun _ => True) a.Steps
def preTKeyPath (a : TKeyPath) : Prop := preL (fun _ => True) a.Steps
theorem wtTKeyPath {x : List D} (h0 : WTs [.l [.i .i64]] x) : ∃ a : TKeyPath, x = eTKeyPath a ∧ preTKeyPath a := by
  obtain ⟨y0, r0, rfl, l0, w0, h1⟩ := h0.gl
  obtain ⟨n0, rfl, p0⟩ := WTL_map (f := eI) (p := (fun _ => True)) (fun x h => by obtain ⟨n, r, rfl, w, h⟩ := h.gi; obtain rfl := h.gn; exact ⟨n, rfl, trivial⟩) w0
  obtain rfl := h1.gn
  exact ⟨⟨n0⟩, rfl, ⟨by simpa using l0, p0⟩⟩
def okTLeakedKey (a : TLeakedKey) : Prop := okTKeyPath a.Path
def preTLeakedKey (a : TLeakedKey) : Prop := preTKeyPath a.Path
theorem wtTLeakedKey {x : List D} (h0 : WTs [.i .i64, .l [.i .i64]] x) : ∃ a : TLeakedKey, x = eTLeakedKey a ∧ preTLeakedKey a := by
  obtain ⟨n0, r0, rfl, w0, h1⟩ := h0.gi
  obtain ⟨y1, r1, rfl, l1, w1, h2⟩ := h1.gl
  obtain ⟨n1, rfl, p1⟩ := WTL_map (f := eI) (p := (fun _ => True)) (fun x h => by obtain ⟨n, r, rfl, w, h⟩ := h.gi; obtain rfl := h.gn; exact ⟨n, rfl, trivial⟩) w1
  obtain rfl := h2.gn
  exact ⟨⟨n0, ⟨n1⟩⟩, rfl, ⟨by simpa using l1, p1⟩⟩
theorem psz_KeyPath : Sz lszKeyPath okTKeyPath preTKeyPath := by
  intro a left hp h0 h1
  unfold lszKeyPath
  obtain ⟨r0, a0, b0, c0⟩ := psz_IntS a.Steps left hp h0 h1
  rcases c0 with ⟨c0, rfl⟩ | ⟨c0, d0, e0⟩
  · exact ⟨-1, by simp [a0, c0], by omega, .inl ⟨c0, rfl⟩⟩
  exact ⟨r0, by simp [a0, c0], b0, .inr ⟨c0, d0, e0⟩⟩
theorem psz_LeakedKey : Sz lszLeakedKey okTLeakedKey preTLeakedKey := by
  intro a left hp h0 h1
  unfold lszLeakedKey
  obtain ⟨r0, a0, b0, c0⟩ := psz_KeyPath a.Path left hp h0 h1
  rcases c0 with ⟨c0, rfl⟩ | ⟨c0, d0, e0⟩
  · exact ⟨-1, by simp [a0, c0], by omega, .inl ⟨c0, rfl⟩⟩
  exact ⟨r0, by simp [a0, c0], b0, .inr ⟨c0, d0, e0⟩⟩
theorem psz_LeakedKeyS : Sz lszLeakedKeyS (okL okTLeakedKey) (preL preTLeakedKey) := sz_list psz_LeakedKey (fun _ _ => rfl) (fun _ _ _ => rfl)
theorem pto_KeyPath : ∀ a, okTKeyPath a → ltoKeyPath a = some a := fun a h => by simp [ltoKeyPath, pto_IntS _ h]
theorem pto_LeakedKey : ∀ a, okTLeakedKey a → ltoLeakedKey a = some a := fun a h => by simp [ltoLeakedKey, pto_KeyPath _ h]
theorem pto_LeakedKeyS : ∀ xs, okL okTLeakedKey xs → ltoLeakedKeyS xs = some xs := to_list (⟨0, ⟨[]⟩⟩ : TLeakedKey) (by decide) pto_LeakedKey (fun _ => rfl) (fun _ _ _ => rfl)
theorem peq_KeyPath : ∀ a, okTKeyPath a → leqKeyPath a a = some true := fun a h => by simp [leqKeyPath, eqB_refl, strB, booB, peq_IntS _ h]
theorem peq_LeakedKey : ∀ a, okTLeakedKey a → leqLeakedKey a a = some true := fun a h => by simp [leqLeakedKey, eqB_refl, strB, booB, peq_KeyPath _ h]
theorem peq_LeakedKeyS : ∀ xs, okL okTLeakedKey xs → leqLeakedKeyS xs xs = some true := eq_list peq_LeakedKey (fun _ _ => rfl) (fun _ _ _ => rfl)
theorem pz_LeakedKeyS : Mk lmarkLeakedKeyS_z (okL okTLeakedKey) 1099512676352 := by
  refine mk_list (L := lmarkLeakedKeyS_z_L1) (b := 1048577) (by decide) (by decide) (fun _ _ => rfl) (fun xs k => by simp [lmarkLeakedKeyS_z_L1, ltB_self]) (fun xs k i x hx hi hl hok h0 h1 => ?_)
  · skip
    obtain ⟨k0, e0, l0, u0⟩ := pz_IntS x.Path.Steps (k + 1) hok (by omega) (by omega)
    refine ⟨k0, ?_, by omega, by omega⟩
    have hw : ∀ n : Int, 0 ≤ n → n ≤ 9223372036854775807 → WR n = n := fun n h h' => WR_in (by omega)
    simp (disch := omega) only [lmarkLeakedKeyS_z_L1, ltB_lt hi, ix_nat, hx, WR_succ (show i < 9223372036854775807 by omega), Option.bind_some, cond_true, hw, Int.add_assoc, Int.reduceAdd, e0]
theorem wtTUsageRecord {x : List D} (h0 : WTs [.i .i64, .i .i64, .i .i64, .i .i64] x) : ∃ a : TUsageRecord, x = eTUsageRecord a ∧ (fun _ => True) a := by
  obtain ⟨n0, r0, rfl, w0, h1⟩ := h0.gi
  obtain ⟨n1, r1, rfl, w1, h2⟩ := h1.gi
  obtain ⟨n2, r2, rfl, w2, h3⟩ := h2.gi
  obtain ⟨n3, r3, rfl, w3, h4⟩ := h3.gi
  obtain rfl := h4.gn
  exact ⟨⟨n0, n1, n2, n3⟩, rfl, trivial⟩
def okTOperatorBook (a : TOperatorBook) : Prop := okL (fun _ => True) a.Own ∧ okL (fun _ => True) a.Claims
def preTOperatorBook (a : TOperatorBook) : Prop := preL (fun _ => True) a.Own ∧ preL (fun _ => True) a.Claims
theorem wtTOperatorBook {x : List D} (h0 : WTs [.i .i64, .l [.i .i64, .i .i64, .i .i64, .i .i64], .l [.i .i64, .i .i64, .i .i64, .i .i64]] x) : ∃ a : TOperatorBook, x = eTOperatorBook a ∧ preTOperatorBook a := by
  obtain ⟨n0, r0, rfl, w0, h1⟩ := h0.gi
  obtain ⟨y1, r1, rfl, l1, w1, h2⟩ := h1.gl
  obtain ⟨n1, rfl, p1⟩ := WTL_map (f := eTUsageRecord) (p := (fun _ => True)) (fun _ h => wtTUsageRecord h) w1
  obtain ⟨y2, r2, rfl, l2, w2, h3⟩ := h2.gl
  obtain ⟨n2, rfl, p2⟩ := WTL_map (f := eTUsageRecord) (p := (fun _ => True)) (fun _ h => wtTUsageRecord h) w2
  obtain rfl := h3.gn
  exact ⟨⟨n0, n1, n2⟩, rfl, ⟨⟨by simpa using l1, p1⟩, ⟨by simpa using l2, p2⟩⟩⟩
theorem psz_UsageRecordS : Sz lszUsageRecordS (okL (fun _ => True)) (preL (fun _ => True)) := sz_flat (fun _ _ => rfl)
theorem psz_OperatorBook : Sz lszOperatorBook okTOperatorBook preTOperatorBook := by
  intro a left hp h0 h1
  unfold lszOperatorBook
  obtain ⟨r0, a0, b0, c0⟩ := psz_UsageRecordS a.Own left hp.1 h0 h1
  rcases c0 with ⟨c0, rfl⟩ | ⟨c0, d0, e0⟩
  · exact ⟨-1, by simp [a0, c0], by omega, .inl ⟨c0, rfl⟩⟩
  obtain ⟨r1, a1, b1, c1⟩ := psz_UsageRecordS a.Claims r0 hp.2 d0 b0
  rcases c1 with ⟨c1, rfl⟩ | ⟨c1, d1, e1⟩
  · exact ⟨-1, by simp [a0, c0, a1, c1], by omega, .inl ⟨c1, rfl⟩⟩
  exact ⟨r1, by simp [a0, c0, a1, c1], b1, .inr ⟨c1, d1, e0, e1⟩⟩
theorem psz_OperatorBookS : Sz lszOperatorBookS (okL okTOperatorBook) (preL preTOperatorBook) := sz_list psz_OperatorBook (fun _ _ => rfl) (fun _ _ _ => rfl)
theorem pto_UsageRecord : ∀ a, (fun _ => True) a → ltoUsageRecord a = some a := fun a h => by simp [ltoUsageRecord]
theorem pto_UsageRecordS : ∀ xs, okL (fun _ => True) xs → ltoUsageRecordS xs = some xs := to_list (⟨0, 0, 0, 0⟩ : TUsageRecord) (by decide) pto_UsageRecord (fun _ => rfl) (fun _ _ _ => rfl)
theorem pto_OperatorBook : ∀ a, okTOperatorBook a → ltoOperatorBook a = some a := fun a h => by simp [ltoOperatorBook, pto_UsageRecordS _ h.1, pto_UsageRecordS _ h.2]
theorem pto_OperatorBookS : ∀ xs, okL okTOperatorBook xs → ltoOperatorBookS xs = some xs := to_list (⟨0, [], []⟩ : TOperatorBook) (by decide) pto_OperatorBook (fun _ => rfl) (fun _ _ _ => rfl)
theorem peq_UsageRecord : ∀ a, (fun _ => True) a → leqUsageRecord a a = some true := fun a h => by simp [leqUsageRecord, eqB_refl, strB, booB]
theorem peq_UsageRecordS : ∀ xs, okL (fun _ => True) xs → leqUsageRecordS xs xs = some true := eq_list peq_UsageRecord (fun _ _ => rfl) (fun _ _ _ => rfl)
theorem peq_OperatorBook : ∀ a, okTOperatorBook a → leqOperatorBook a a = some true := fun a h => by simp [leqOperatorBook, eqB_refl, strB, booB, peq_UsageRecordS _ h.1, peq_UsageRecordS _ h.2]
theorem peq_OperatorBookS : ∀ xs, okL okTOperatorBook xs → leqOperatorBookS xs xs = some true := eq_list peq_OperatorBook (fun _ _ => rfl) (fun _ _ _ => rfl)
theorem pz_UsageRecordS : Mk lmarkUsageRecordS_z (okL (fun _ => True)) 4194304 := by
  refine mk_list (L := lmarkUsageRecordS_z_L1) (b := 4) (by decide) (by decide) (fun _ _ => rfl) (fun xs k => by simp [lmarkUsageRecordS_z_L1, ltB_self]) (fun xs k i x hx hi hl hok h0 h1 => ?_)
  · skip
    refine ⟨k + 4, ?_, by omega, by omega⟩
    have hw : ∀ n : Int, 0 ≤ n → n ≤ 9223372036854775807 → WR n = n := fun n h h' => WR_in (by omega)
    simp (disch := omega) only [lmarkUsageRecordS_z_L1, ltB_lt hi, ix_nat, hx, WR_succ (show i < 9223372036854775807 by omega), Option.bind_some, cond_true, hw, Int.add_assoc, Int.reduceAdd]
theorem pz_OperatorBookS : Mk lmarkOperatorBookS_z (okL okTOperatorBook) 8796094070784 := by
  refine mk_list (L := lmarkOperatorBookS_z_L1) (b := 8388609) (by decide) (by decide) (fun _ _ => rfl) (fun xs k => by simp [lmarkOperatorBookS_z_L1, ltB_self]) (fun xs k i x hx hi hl hok h0 h1 => ?_)
  · skip
    obtain ⟨k0, e0, l0, u0⟩ := pz_UsageRecordS x.Own (k + 1) hok.1 (by omega) (by omega)
    obtain ⟨k1, e1, l1, u1⟩ := pz_UsageRecordS x.Claims (k0) hok.2 (by omega) (by omega)
    refine ⟨k1, ?_, by omega, by omega⟩
    have hw : ∀ n : Int, 0 ≤ n → n ≤ 9223372036854775807 → WR n = n := fun n h h' => WR_in (by omega)
    simp (disch := omega) only [lmarkOperatorBookS_z_L1, ltB_lt hi, ix_nat, hx, WR_succ (show i < 9223372036854775807 by omega), Option.bind_some, cond_true, hw, Int.add_assoc, Int.reduceAdd, e0, e1]
def gUsageRecordS (k : Int) : TUsageRecord := (⟨k, k + 1, k + 2, k + 3⟩ : TUsageRecord)
theorem pmark_UsageRecordS (xs : List TUsageRecord) (h : xs.length ≤ 1048576) : lmarkUsageRecordS xs 1 = some (1 + (4 : Int) * (xs.length : Int), marks gUsageRecordS 4 xs.length 1) := by
  have := mark_list gUsageRecordS 4 (by decide) (L := lmarkUsageRecordS_L1) (fun k i v hi hl h0 h1 => by
    have hw : ∀ j : Int, 0 ≤ j → j ≤ 100 → WR (k + j) = k + j := fun j h2 h3 => WR_in (by omega)
    simp [lmarkUsageRecordS_L1, ltB_lt hi, ix_nat, List.getElem?_eq_getElem hi, hi, List.set_set, gUsageRecordS, WR_succ (show i < 9223372036854775807 by omega), hw, Int.add_assoc]) (fun k v => by simp [lmarkUsageRecordS_L1, ltB_self]) xs h
  unfold lmarkUsageRecordS
  rw [this]; rfl
end Go.AM
