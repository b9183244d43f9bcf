/-
  Plain laws on the models: loops over lists, sums that fit.
-/
import Derived.Test.YtafgglkmebkeeaaDoorAmZb
set_option linter.unusedVariables false
namespace Go.AM

theorem FU_big : 9223372036854775808 ≤ FU := by unfold FU; omega
/-- Over the elements of a list, with a way out. -/
def forL {α σ ρ : Type} (body : σ → α → Option (Step σ ρ)) (fin : σ → Option ρ) : List α → σ → Option ρ
  | [], s => fin s
  | x :: xs, s => match body s x with
    | some (.next s') => forL body fin xs s'
    | some (.done r) => some r
    | none => none
def stepM {σ τ ρ : Type} (f : σ → τ) : Option (Step σ ρ) → Option (Step τ ρ)
  | some (.next s) => some (.next (f s))
  | some (.done r) => some (.done r)
  | none => none
@[simp] theorem stepM_next {σ τ ρ : Type} (f : σ → τ) (s : σ) : stepM (ρ := ρ) f (some (.next s)) = some (.next (f s)) := rfl
@[simp] theorem stepM_done {σ τ ρ : Type} (f : σ → τ) (r : ρ) : stepM f (some (.done r)) = some (.done r) := rfl
@[simp] theorem stepM_none {σ τ ρ : Type} (f : σ → τ) : stepM (ρ := ρ) f none = none := rfl
@[simp] theorem stepM_cond {σ τ ρ : Type} (f : σ → τ) (b : Bool) (x y : Option (Step σ ρ)) : stepM f (bif b then x else y) = bif b then stepM f x else stepM f y := by cases b <;> rfl
@[simp] theorem stepM_bind {α σ τ ρ : Type} (f : σ → τ) (o : Option α) (k : α → Option (Step σ ρ)) : stepM f (Option.bind o k) = Option.bind o (fun a => stepM f (k a)) := by cases o <;> rfl
@[simp] theorem dn_some {σ ρ : Type} (r : ρ) : dn (σ := σ) (some r) = some (.done r) := rfl
@[simp] theorem dn_none {σ ρ : Type} : dn (σ := σ) (ρ := ρ) none = none := rfl
theorem iter_for {α σ τ ρ : Type} {step : τ → Option (Step τ ρ)} (xs : List α) (mk : Nat → σ → τ) (body : σ → α → Option (Step σ ρ)) (fin : σ → Option ρ) (hl : xs.length ≤ 9223372036854775806)
    (hs : ∀ (k : Nat) (x : α) (s : σ), xs[k]? = some x → k < xs.length → step (mk k s) = stepM (mk (k + 1)) (body s x))
    (he : ∀ s, step (mk xs.length s) = dn (fin s)) (s0 : σ) : iter step FU (mk 0 s0) = forL body fin xs s0 := by
  have key : ∀ (m n : Nat) (s : σ) (k : Nat), m = xs.length - k → k ≤ xs.length → m < n → iter step n (mk k s) = forL body fin (xs.drop k) s := by
    intro m
    induction m with
    | zero =>
      intro n s k hm hk hn
      cases n with
      | zero => omega
      | succ n =>
        have : k = xs.length := by omega
        subst this
        rw [List.drop_length, forL, iter, he]
        cases fin s <;> rfl
    | succ m ih =>
      intro n s k hm hk hn
      cases n with
      | zero => omega
      | succ n =>
        have hlt : k < xs.length := by omega
        rw [List.drop_eq_getElem_cons hlt, forL, iter, hs k xs[k] s (List.getElem?_eq_getElem hlt) hlt]
        cases hb : body s xs[k] with
        | none => rfl
        | some o =>
          cases o with
          | done r => rfl
          | next s' => exact ih n s' (k + 1) (by omega) (by omega) (by omega)
  have := key (xs.length - 0) FU s0 0 rfl (Nat.zero_le _) (by have := FU_big; omega)
  simpa using this
theorem ix_nat {α : Type} (xs : List α) (k : Nat) : ix xs (k : Int) = xs[k]? := by simp [ix, leB]
theorem WR_in {n : Int} (h : -9223372036854775808 ≤ n ∧ n ≤ 9223372036854775807) : WR n = n := wrap_in h
theorem WR_succ {k : Nat} (h : k < 9223372036854775807) : WR ((k : Int) + 1) = ((k + 1 : Nat) : Int) := by rw [WR_in (by omega)]; omega
theorem ltB_nat {a b : Nat} : ltB (a : Int) (b : Int) = decide (a < b) := by simp [ltB]
theorem ltB_lt {a b : Nat} (h : a < b) : ltB (a : Int) (b : Int) = true := by simp [ltB, h]
theorem ltB_self (a : Int) : ltB a a = false := by simp [ltB]
theorem eqB_refl (a : Int) : eqB a a = true := by simp [eqB]
theorem set_at {α : Type} {xs : List α} {k : Nat} {x : α} (h : xs[k]? = some x) (y : α) : (xs.set k y)[k]? = some y := by
  have := (List.getElem?_eq_some_iff.1 h).1
  simp [this]
/-- A copy, element by element. -/
theorem iter_copy {α β : Type} {step : Int × List β → Option (Step (Int × List β) (List β))} (f : α → β) (z : β) (xs : List α) (hl : xs.length ≤ 9223372036854775806)
    (hs : ∀ (k : Nat) (x : α) (v : List β), xs[k]? = some x → v.length = xs.length → step ((k : Int), v) = some (.next (((k + 1 : Nat) : Int), v.set k (f x))))
    (he : ∀ v, step ((xs.length : Nat) , v) = some (.done v)) : iter step FU (0, List.replicate xs.length z) = some (xs.map f) := by
  have key : ∀ (m n : Nat) (k : Nat), m = xs.length - k → k ≤ xs.length → m < n → iter step n ((k : Int), (xs.take k).map f ++ List.replicate (xs.length - k) z) = some (xs.map f) := by
    intro m
    induction m with
    | zero =>
      intro n k hm hk hn
      cases n with
      | zero => omega
      | succ n =>
        have : k = xs.length := by omega
        subst this
        rw [iter, he]
        simp
    | succ m ih =>
      intro n k hm hk hn
      cases n with
      | zero => omega
      | succ n =>
        have hlt : k < xs.length := by omega
        rw [iter, hs k xs[k] _ (List.getElem?_eq_getElem hlt) (by simp; omega)]
        have e : ((xs.take k).map f ++ List.replicate (xs.length - k) z).set k (f xs[k]) = (xs.take (k + 1)).map f ++ List.replicate (xs.length - (k + 1)) z := by
          apply List.ext_getElem?
          intro j
          rw [List.getElem?_set]
          by_cases hj : k = j
          · subst hj
            rw [if_pos rfl, if_pos (by simp; omega), List.getElem?_append_left (by simp; omega)]
            simp [hlt]
          · rw [if_neg hj]
            by_cases h2 : j < k
            · rw [List.getElem?_append_left (by simp; omega), List.getElem?_append_left (by simp; omega)]
              simp [h2, show j < k + 1 by omega]
            · rw [List.getElem?_append_right (by simp; omega), List.getElem?_append_right (by simp; omega)]
              simp only [List.getElem?_replicate, List.length_map, List.length_take, Nat.min_eq_left (Nat.le_of_lt hlt), Nat.min_eq_left (show k + 1 ≤ xs.length from hlt)]
              by_cases h3 : j < xs.length
              · rw [if_pos (by omega), if_pos (by omega)]
              · rw [if_neg (by omega), if_neg (by omega)]
        show iter step n (((k + 1 : Nat) : Int), _) = _
        rw [e]
        exact ih n (k + 1) (by omega) (by omega) (by omega)
  have := key (xs.length - 0) FU 0 rfl (Nat.zero_le _) (by have := FU_big; omega)
  simpa using this
end Go.AM
