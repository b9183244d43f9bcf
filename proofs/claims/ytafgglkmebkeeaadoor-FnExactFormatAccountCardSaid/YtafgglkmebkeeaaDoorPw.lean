/-
  Own text: a part of the abstract machine for this seat (Pw). No statement is proved here.
-/
import Derived.Test.YtafgglkmebkeeaaDoorPv
set_option linter.unusedVariables false
namespace Go.AM
/-! marks of which only the number counts -/
def Mk {α : Type} (f : α → Int → Option Int) (ok : α → Prop) (B : Int) : Prop :=
  ∀ a k, ok a → 0 ≤ k → k + B ≤ 9223372036854775807 → ∃ k', f a k = some k' ∧ k ≤ k' ∧ k' ≤ k + B
theorem mk_list {α : Type} {f : List α → Int → Option Int} {L : List α → Int × Int → Option (Step (Int × Int) Int)} {ok : α → Prop} {b B : Int} (hb : 0 ≤ b) (hB : 1048576 * b ≤ B)
    (hf : ∀ xs k, f xs k = Option.bind (iter (L xs) FU (k, 0)) fun r => some r)
    (he : ∀ xs k, L xs (k, ((xs.length : Nat) : Int)) = some (.done k))
    (hs : ∀ (xs : List α) (k : Int) (i : Nat) (x : α), xs[i]? = some x → i < xs.length → xs.length ≤ 1048576 → ok x → 0 ≤ k → k + b ≤ 9223372036854775807 → ∃ k', L xs (k, (i : Int)) = some (.next (k', ((i + 1 : Nat) : Int))) ∧ k ≤ k' ∧ k' ≤ k + b) :
    Mk f (okL ok) B := by
  intro xs k hok h0 h1
  have key : ∀ (m n i : Nat) (k : Int), m = xs.length - i → i ≤ xs.length → m < n → 0 ≤ k → k + m * b ≤ 9223372036854775807 → ∃ k', iter (L xs) n (k, (i : Int)) = some k' ∧ k ≤ k' ∧ k' ≤ k + m * b := by
    intro m
    induction m with
    | zero =>
      intro n i k hm hi hn hk hkb
      cases n with
      | zero => omega
      | succ n =>
        have : i = xs.length := by omega
        subst this
        exact ⟨k, by rw [iter, he], by omega, by omega⟩
    | succ m ih =>
      intro n i k hm hi hn hk hkb
      cases n with
      | zero => omega
      | succ n =>
        have hlt : i < xs.length := by omega
        have hmul : ((m + 1 : Nat) : Int) * b = m * b + b := by rw [Int.natCast_add, Int.add_mul]; simp
        have hmb : 0 ≤ (m : Int) * b := Int.mul_nonneg (by omega) hb
        rw [hmul] at hkb
        obtain ⟨k1, e1, l1, u1⟩ := hs xs k i xs[i] (List.getElem?_eq_getElem hlt) hlt hok.1 (hok.2 _ (List.getElem_mem hlt)) hk (by omega)
        obtain ⟨k2, e2, l2, u2⟩ := ih n (i + 1) k1 (by omega) (by omega) (by omega) (by omega) (by omega)
        exact ⟨k2, by rw [iter, e1]; exact e2, by omega, by rw [hmul]; omega⟩
  have hlb : (xs.length : Int) * b ≤ 1048576 * b := Int.mul_le_mul_of_nonneg_right (by have := hok.1; omega) hb
  obtain ⟨k', e, l, u⟩ := key xs.length FU 0 k (by omega) (by omega) (by have := FU_big; have := hok.1; omega) h0 (by omega)
  exact ⟨k', by rw [hf]; show Option.bind (iter (L xs) FU (k, ((0 : Nat) : Int))) _ = _; rw [e]; rfl, l, by omega⟩
/-- Over the elements, all must be so; then the answer is c. -/
theorem allK {α : Type} {L : Int → Option (Step Int Bool)} (xs : List α) (p : Nat → α → Bool) (c : Option Bool) (hl : xs.length ≤ 9223372036854775806)
    (hs : ∀ (k : Nat) (x : α), xs[k]? = some x → k < xs.length → L (k : Int) = bif p k x then some (.next ((k + 1 : Nat) : Int)) else some (.done false)) (he : L ((xs.length : Nat) : Int) = dn c) :
    iter L FU 0 = bif xs.zipIdx.all (fun y => p y.2 y.1) then c else some false := by
  have := iter_for (step := L) xs.zipIdx (fun k (_ : Unit) => (k : Int)) (fun _ y => bif p y.2 y.1 then some (.next ()) else some (.done false)) (fun _ => c) (by simpa using hl)
    (fun k y s hy hk => by
      have hk' : k < xs.length := by simpa using hk
      have : y = (xs[k], k) := by rw [List.getElem?_eq_getElem hk] at hy; simpa using hy.symm
      subst this
      rw [hs k xs[k] (List.getElem?_eq_getElem hk') hk']; cases p k xs[k] <;> rfl) (fun s => by rw [List.length_zipIdx, he]) ()
  refine Eq.trans (show iter L FU 0 = _ from this) ?_
  have key : ∀ ys : List (α × Nat), forL (fun (_ : Unit) y => bif p y.2 y.1 then some (.next ()) else some (Step.done false)) (fun _ => c) ys () = bif ys.all (fun y => p y.2 y.1) then c else some false := by
    intro ys
    induction ys with
    | nil => rfl
    | cons x xs ih => rw [forL]; cases hp : p x.2 x.1 <;> simp [hp, ih]
  exact key _
def inR (n a b : Int) : Bool := leB a n && leB n b
theorem inR_iff {n a b : Int} : inR n a b = true ↔ a ≤ n ∧ n ≤ b := by simp [inR, leB]
theorem inR_and (i : Int) (m n : Nat) : (inR i 0 ((m : Int) - 1) && inR i 0 ((n : Int) - 1)) = inR i 0 ((if (n : Int) < m then (n : Int) else m) - 1) := by
  rw [Bool.eq_iff_iff, Bool.and_eq_true, inR_iff, inR_iff, inR_iff]
  split <;> omega
theorem WR_pred {n : Nat} (h : n ≤ 1048576) : WR ((n : Int) - 1) = (n : Int) - 1 := WR_in (by omega)
theorem ix_in {α : Type} {xs : List α} {i : Int} (h0 : 0 ≤ i) (h1 : i < xs.length) : ∃ x, x ∈ xs ∧ ix xs i = some x := by
  obtain ⟨k, rfl⟩ := Int.eq_ofNat_of_zero_le h0
  have hk : k < xs.length := by omega
  exact ⟨xs[k], List.getElem_mem hk, by rw [ix_nat, List.getElem?_eq_getElem hk]⟩
theorem booB_refl (b : Bool) : booB b b = true := by simp
end Go.AM
