/-
  Own text: a part of the abstract machine for this seat (Qd). No statement is proved here.
-/
import Derived.Test.YtnhgchfpccpcdaaHas
import Derived.Test.YtnhgchfpccpcdaaPw
set_option linter.unusedVariables false
set_option linter.unusedSimpArgs false
namespace Go.AM
open Go.Proofs
attribute [local simp] ltB_self eqB_refl ix_nat
/-! what is drawn -/
theorem and_nn (x : Int) (m : Nat) (hm : m < 9223372036854775808) : 0 ≤ bAnd .i64 x (m : Int) ∧ bAnd .i64 x (m : Int) ≤ m := by
  unfold bAnd
  have h1 : (BitVec.ofInt IntKind.i64.bits x &&& BitVec.ofInt IntKind.i64.bits (m : Int)).toNat ≤ m := by
    rw [BitVec.toNat_and]
    refine Nat.le_trans Nat.and_le_right ?_
    show (BitVec.ofInt 64 (m : Int)).toNat ≤ m
    rw [BitVec.toNat_ofInt]
    omega
  rw [wrap_in (by omega)]
  omega
structure curOK (c : Tl1Cur) : Prop where
  l : c.fb.length ≤ 1048576
  u : ∀ x ∈ c.fb, okU8 x
  a : 0 ≤ c.fi
  b : c.fi ≤ c.fb.length
theorem byte_ok {c : Tl1Cur} (h : curOK c) : ∃ v c', sl1Byte c = some (v, c') ∧ 0 ≤ v ∧ v ≤ 255 ∧ curOK c' := by
  unfold sl1Byte
  have := h.l
  have ha := h.a
  have hb := h.b
  by_cases hi : c.fi < c.fb.length
  · obtain ⟨x, hx, e⟩ := ix_in h.a hi
    rw [show ltB c.fi ((c.fb.length : Nat) : Int) = true from by simp [ltB, hi]]
    simp only [cond_true, e, Option.bind_some]
    refine ⟨_, _, rfl, (and_nn _ 255 (by omega)).1, (and_nn _ 255 (by omega)).2, ⟨h.l, h.u, ?_, ?_⟩⟩
    · show 0 ≤ WR (c.fi + 1); rw [WR_in (by omega)]; omega
    · show WR (c.fi + 1) ≤ (c.fb.length : Int); rw [WR_in (by omega)]; omega
  · rw [show ltB c.fi ((c.fb.length : Nat) : Int) = false from by simp [ltB]; omega]
    simp only [cond_false, Option.bind_some]
    exact ⟨_, _, rfl, (and_nn _ 255 (by omega)).1, (and_nn _ 255 (by omega)).2, ⟨h.l, h.u, h.a, h.b⟩⟩
theorem tmod_in {v n : Int} (hv : 0 ≤ v) (hn : 0 < n) : 0 ≤ Int.tmod v n ∧ Int.tmod v n < n := by
  rw [Int.tmod_eq_emod_of_nonneg hv]
  exact ⟨Int.emod_nonneg _ (by omega), Int.emod_lt_of_pos _ hn⟩
theorem below_ok {c : Tl1Cur} (h : curOK c) {n : Int} (hn : 1 ≤ n) : ∃ v c', sl1Below c n = some (v, c') ∧ 0 ≤ v ∧ v < n ∧ curOK c' := by
  unfold sl1Below
  rw [show leB n 0 = false from by simp [leB]; omega]
  have hz : (!eqB n 0) = true := by simp [eqB]; omega
  simp only [cond_false, hz, cond_true]
  by_cases h2 : n ≤ 256
  · rw [show leB n 256 = true from by simp [leB, h2]]
    obtain ⟨v, c', e, h0, h1, hc⟩ := byte_ok h
    have := tmod_in h0 (show 0 < n by omega)
    simp only [cond_true, e, Option.bind_some]
    exact ⟨_, _, rfl, this.1, this.2, hc⟩
  · rw [show leB n 256 = false from by simp [leB]; omega]
    obtain ⟨v, c1, e, h0, h1, hc⟩ := byte_ok h
    obtain ⟨v2, c2, e2, h02, h12, hc2⟩ := byte_ok hc
    obtain ⟨v3, c3, e3, h03, h13, hc3⟩ := byte_ok hc2
    simp only [cond_false, e, e2, e3, Option.bind_some]
    rw [WR_in (n := v * 65536) (by omega), WR_in (n := v2 * 256) (by omega), WR_in (n := v * 65536 + v2 * 256) (by omega), WR_in (n := v * 65536 + v2 * 256 + v3) (by omega)]
    have := tmod_in (v := v * 65536 + v2 * 256 + v3) (by omega) (show 0 < n by omega)
    exact ⟨_, _, rfl, this.1, this.2, hc3⟩
theorem once_ok {c : Tl1Cur} (h : curOK c) {n : Int} (hn : 1 ≤ n) : ∃ v c', sl1Once c n = some (v, c') ∧ curOK c' := by
  obtain ⟨v, c', e, _, _, hc⟩ := below_ok h hn
  exact ⟨_, _, by rw [sl1Once, e]; rfl, hc⟩
theorem new_ok {xs : List Int} (hl : xs.length ≤ 1048576) (hu : ∀ x ∈ xs, okU8 x) : ∃ c, sl1New xs = some c ∧ curOK c ∧ c.fb = xs := by
  have key : ∀ (m n k : Nat) (v : Int), m = xs.length - k → k ≤ xs.length → m < n → ∃ r, iter (sl1New_L1 xs) n (v, (k : Int)) = some r := by
    intro m
    induction m with
    | zero =>
      intro n k v hm hk hn
      cases n with
      | zero => omega
      | succ n =>
        have : k = xs.length := by omega
        subst this
        exact ⟨v, by rw [iter]; simp [sl1New_L1]⟩
    | succ m ih =>
      intro n k v hm hk hn
      cases n with
      | zero => omega
      | succ n =>
        have hlt : k < xs.length := by omega
        rw [iter]
        simp only [sl1New_L1, ltB_lt hlt, cond_true, Option.bind_some, ix_nat, List.getElem?_eq_getElem hlt, WR_succ (show k < 9223372036854775807 by omega)]
        cases ltB (k : Int) 4000
        · exact ⟨v, rfl⟩
        · exact ih n (k + 1) _ (by omega) (by omega) (by omega)
  obtain ⟨r, hr⟩ := key xs.length FU 0 (WR (193017 + ((xs.length : Nat) : Int))) (by omega) (by omega) (by have := FU_big; omega)
  refine ⟨⟨xs, 0, r⟩, ?_, ⟨hl, hu, Int.le_refl 0, Int.natCast_nonneg _⟩, rfl⟩
  rw [sl1New, show iter (sl1New_L1 xs) FU (WR (193017 + ((xs.length : Nat) : Int)), 0) = some r from hr]
  rfl
end Go.AM
