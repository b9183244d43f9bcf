/-
  The abstract machine, part P: plain lemmas for loops over lists.
-/
import Derived.Test.YtmlpfnppnjfcaaaDoorAmO
set_option linter.unusedVariables false
namespace Go.AM
abbrev WR (n : Int) : Int := IntKind.i64.wrap n
theorem at_map {α : Type} {f : α → List D} {l : List α} {k : Nat} (h : k < l.length) : (l.map f)[(k : Int).toNat]? = some (f l[k]) := by simp [h]
theorem fold_drop {α β : Type} {f : β → α → β} {l : List α} {k : Nat} {t : β} (h : k < l.length) : (l.drop k).foldl f t = (l.drop (k + 1)).foldl f (f t l[k]) := by rw [List.drop_eq_getElem_cons h]; rfl
theorem len_map {α : Type} {f : α → List D} {n : Nat} (h : ∀ a, (f a).length = n) (l : List α) : ∀ e ∈ l.map f, e.length = n := by
  intro e he; simp at he; obtain ⟨s, _, rfl⟩ := he; exact h s
/-- A row that is being filled: the first k elements are there. -/
abbrev filled {α : Type} (f : α → List D) (z : List D) (l : List α) (k : Nat) : List (List D) := (l.take k).map f ++ List.replicate (l.length - k) z
theorem fill_zero {α : Type} {f : α → List D} {z : List D} {l : List α} : filled f z l 0 = List.replicate l.length z := by simp [filled]
theorem fill_all {α : Type} {f : α → List D} {z : List D} {l : List α} : filled f z l l.length = l.map f := by simp [filled]
theorem fill_get {α : Type} {f : α → List D} {z : List D} {l : List α} {k : Nat} (h : k < l.length) : (filled f z l k)[(k : Int).toNat]? = some z := by
  have h1 : ((l.take k).map f).length = k := by simp; omega
  simp only [filled, Int.toNat_natCast]
  rw [List.getElem?_append_right (by omega), h1, Nat.sub_self, List.getElem?_replicate, if_pos (by omega)]
theorem fill_set {α : Type} {f : α → List D} {z : List D} {l : List α} {k : Nat} (h : k < l.length) : (filled f z l k).set (k : Int).toNat (f l[k]) = filled f z l (k + 1) := by
  have h1 : ((l.take k).map f).length = k := by simp; omega
  simp only [filled, Int.toNat_natCast]
  rw [List.set_append_right _ _ (by omega), h1, Nat.sub_self, show l.length - k = (l.length - (k + 1)) + 1 from by omega, List.replicate_succ, List.set_cons_zero,
    List.take_succ_eq_append_getElem h, List.map_append, List.append_assoc]
  rfl
theorem fill_len {α : Type} {f : α → List D} {z : List D} {l : List α} {k : Nat} (h : k ≤ l.length) : (filled f z l k).length = l.length := by simp [filled]; omega
end Go.AM
