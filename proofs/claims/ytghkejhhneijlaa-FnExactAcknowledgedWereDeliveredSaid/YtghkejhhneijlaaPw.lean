/-
  Own text: a part of the abstract machine for this seat (Pw). No statement is proved here.
-/
import Derived.Test.YtghkejhhneijlaaPv
set_option linter.unusedVariables false
namespace Go.AM
/-! marks of which only the number counts -/
def Mk {α : Type} (f : α → Int → Option Int) (ok : α → Prop) (B : Int) : Prop :=
  ∀ a k, ok a → 0 ≤ k → k + B ≤ 9223372036854775807 → ∃ k', f a k = some k' ∧ k ≤ k' ∧ k' ≤ k + B
theorem mk_list {α : Type} {f : List α → Int → Option Int} {L : List α → Int × Int → Option (Step (Int × Int) Int)} {ok : α → Prop} {b B : Int} (hb : 0 ≤ b) (hB : 1048576 * b ≤ B)
    (hf : ∀ xs k, f xs k = Option.bind (iter (L xs) FU (k, 0)) fun r => some r)
    (he : ∀ xs k, L xs (k, ((xs.length : Nat) : Int)) = some (.done k))
    (hs : ∀ (xs : List α) (k : Int) (i : Nat) (x : α), xs[i]? = some x → i < xs.length → xs.length ≤ 1048576 → ok x → 0 ≤ k → k + b ≤ 9223372036854775807 → ∃ k', L xs (k, (i : Int)) = some (.next (k', ((i + 1 : Nat) : Int))) ∧ k ≤ k' ∧ k' ≤ k + b) :
    Mk f (okL ok) B := by
  intro xs k hok h0 h1
  have key : ∀ (m n i : Nat) (k : Int), m = xs.length - i → i ≤ xs.length → m < n → 0 ≤ k → k + m * b ≤ 9223372036854775807 → ∃ k', iter (L xs) n (k, (i : Int)) = some k' ∧ k ≤ k' ∧ k' ≤ k + m * b := by
    intro m
    induction m with
    | zero =>
      intro n i k hm hi hn hk hkb
      cases n with
      | zero => omega
      | succ n =>
        have : i = xs.length := by omega
        subst this
        exact ⟨k, by rw [iter, he], by omega, by omega⟩
    | succ m ih =>
      intro n i k hm hi hn hk hkb
      cases n with
      | zero => omega
      | succ n =>
        have hlt : i < xs.length := by omega
        have hmul : ((m + 1 : Nat) : Int) * b = m * b + b := by rw [Int.natCast_add, Int.add_mul]; simp
        have hmb : 0 ≤ (m : Int) * b := Int.mul_nonneg (by omega) hb
        rw [hmul] at hkb
        obtain ⟨k1, e1, l1, u1⟩ := hs xs k i xs[i] (List.getElem?_eq_getElem hlt) hlt hok.1 (hok.2 _ (List.getElem_mem hlt)) hk (by omega)
        obtain ⟨k2, e2, l2, u2⟩ := ih n (i + 1) k1 (by omega) (by omega) (by omega) (by omega) (by omega)
        exact ⟨k2, by rw [iter, e1]; exact e2, by omega, by rw [hmul]; omega⟩
  have hlb : (xs.length : Int) * b ≤ 1048576 * b := Int.mul_le_mul_of_nonneg_right (by have := hok.1; omega) hb
  obtain ⟨k', e, l, u⟩ := key xs.length FU 0 k (by omega) (by omega) (by have := FU_big; have := hok.1; omega) h0 (by omega)
  exact ⟨k', by rw [hf]; show Option.bind (iter (L xs) FU (k, ((0 : Nat) : Int))) _ = _; rw [e]; rfl, l, by omega⟩
end Go.AM
