/-
  Own text: a part of the abstract machine for this seat (Pnm). No statement is proved here.
-/
import Derived.Test.YtenhpomjfgbpoaaGnm
import Derived.Test.YtenhpomjfgbpoaaPv
set_option linter.unusedVariables false
set_option linter.unusedSimpArgs false
namespace Go.AM
attribute [local simp] ltB_self eqB_refl ix_nat
theorem wtTStatementLine {x : List D} (h : WTs [.i .i64, .i .i64, .i .i64] x) : ∃ a : TStatementLine, x = eTStatementLine a ∧ (fun _ => True) a := by
  obtain ⟨n0, r, rfl, w0, h⟩ := h.gi
  obtain ⟨n1, r, rfl, w1, h⟩ := h.gi
  obtain ⟨n2, r, rfl, w2, h⟩ := h.gi
  obtain rfl := h.gn
  exact ⟨⟨n0, n1, n2⟩, rfl, trivial⟩
theorem psz_StatementLineS : Sz lszStatementLineS (okL (fun _ => True)) (preL (fun _ => True)) := sz_flat (fun _ _ => rfl)
theorem pto_StatementLine : ∀ a, (fun _ => True) a → ltoStatementLine a = some a := fun a h => by simp [ltoStatementLine]
theorem pto_StatementLineS : ∀ xs, okL (fun _ => True) xs → ltoStatementLineS xs = some xs := to_list (⟨0, 0, 0⟩ : TStatementLine) (by decide) pto_StatementLine (fun _ => rfl) (fun _ _ _ => rfl)
theorem peq_StatementLine : ∀ a, (fun _ => True) a → leqStatementLine a a = some true := fun a h => by simp [leqStatementLine, eqB_refl, strB]
theorem peq_StatementLineS : ∀ xs, okL (fun _ => True) xs → leqStatementLineS xs xs = some true := eq_list peq_StatementLine (fun _ _ => rfl) (fun _ _ _ => rfl)
def gStatementLineS (k : Int) : TStatementLine := (⟨k, k + 1, k + 2⟩ : TStatementLine)
theorem pmark_StatementLineS (xs : List TStatementLine) (h : xs.length ≤ 1048576) : lmarkStatementLineS xs 1 = some (1 + (3 : Int) * (xs.length : Int), marks gStatementLineS 3 xs.length 1) := by
  have := mark_list gStatementLineS 3 (by decide) (L := lmarkStatementLineS_L1) (fun k i v hi hl h0 h1 => by
    have hw : ∀ j : Int, 0 ≤ j → j ≤ 100 → WR (k + j) = k + j := fun j h2 h3 => WR_in (by omega)
    simp [lmarkStatementLineS_L1, ltB_lt hi, ix_nat, List.getElem?_eq_getElem hi, hi, List.set_set, gStatementLineS, WR_succ (show i < 9223372036854775807 by omega), hw, Int.add_assoc]) (fun k v => by simp [lmarkStatementLineS_L1, ltB_self]) xs h
  unfold lmarkStatementLineS
  rw [this]; rfl
theorem pheld_StatementLineS (n : Nat) (h : n ≤ 1048576) : lheldStatementLineS (marks gStatementLineS 3 n 1) 1 = some (1 + (3 : Int) * (n : Int)) := by
  have := held_list gStatementLineS 3 (by decide) (L := lheldStatementLineS_L1) (fun xs k i hi h0 h1 h2 => by
    have hlt := (List.getElem?_eq_some_iff.1 hi).1
    have hw : ∀ j : Int, 0 ≤ j → j ≤ 100 → WR (k + j) = k + j := fun j h2 h3 => WR_in (by omega)
    simp [lheldStatementLineS_L1, ltB_lt hlt, ix_nat, hi, gStatementLineS, eqB_refl, WR_succ (show i < 9223372036854775807 by omega), hw, Int.add_assoc]) (fun xs k => by simp [lheldStatementLineS_L1, ltB_self]) n h
  exact this
end Go.AM
