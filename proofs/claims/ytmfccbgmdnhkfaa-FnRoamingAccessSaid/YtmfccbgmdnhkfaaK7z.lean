/-
  Own text: a part of the abstract machine for this seat (K7z). No statement is proved here.
-/
import Derived.Test.YtmfccbgmdnhkfaaAmZb
import Derived.Test.YtmfccbgmdnhkfaaKal
set_option linter.unusedVariables false
namespace Go.AM

theorem FU_big : 9223372036854775808 ≤ FU := by unfold FU; omega
/-- Over the elements of a list, with a way out. -/
def forL {α σ ρ : Type} (body : σ → α → Option (Step σ ρ)) (fin : σ → Option ρ) : List α → σ → Option ρ
  | [], s => fin s
  | x :: xs, s => match body s x with
    | some (.next s') => forL body fin xs s'
    | some (.done r) => some r
    | none => none
def stepM {σ τ ρ : Type} (f : σ → τ) : Option (Step σ ρ) → Option (Step τ ρ)
  | some (.next s) => some (.next (f s))
  | some (.done r) => some (.done r)
  | none => none
@[simp] theorem stepM_next {σ τ ρ : Type} (f : σ → τ) (s : σ) : stepM (ρ := ρ) f (some (.next s)) = some (.next (f s)) := rfl
@[simp] theorem stepM_done {σ τ ρ : Type} (f : σ → τ) (r : ρ) : stepM f (some (.done r)) = some (.done r) := rfl
@[simp] theorem stepM_none {σ τ ρ : Type} (f : σ → τ) : stepM (ρ := ρ) f none = none := rfl
@[simp] theorem stepM_cond {σ τ ρ : Type} (f : σ → τ) (b : Bool) (x y : Option (Step σ ρ)) : stepM f (bif b then x else y) = bif b then stepM f x else stepM f y := by cases b <;> rfl
@[simp] theorem stepM_bind {α σ τ ρ : Type} (f : σ → τ) (o : Option α) (k : α → Option (Step σ ρ)) : stepM f (Option.bind o k) = Option.bind o (fun a => stepM f (k a)) := by cases o <;> rfl
@[simp] theorem dn_some {σ ρ : Type} (r : ρ) : dn (σ := σ) (some r) = some (.done r) := rfl
@[simp] theorem dn_none {σ ρ : Type} : dn (σ := σ) (ρ := ρ) none = none := rfl
theorem iter_for {α σ τ ρ : Type} {step : τ → Option (Step τ ρ)} (xs : List α) (mk : Nat → σ → τ) (body : σ → α → Option (Step σ ρ)) (fin : σ → Option ρ) (hl : xs.length ≤ 9223372036854775806)
    (hs : ∀ (k : Nat) (x : α) (s : σ), xs[k]? = some x → k < xs.length → step (mk k s) = stepM (mk (k + 1)) (body s x))
    (he : ∀ s, step (mk xs.length s) = dn (fin s)) (s0 : σ) : iter step FU (mk 0 s0) = forL body fin xs s0 := by
  have key : ∀ (m n : Nat) (s : σ) (k : Nat), m = xs.length - k → k ≤ xs.length → m < n → iter step n (mk k s) = forL body fin (xs.drop k) s := by
    intro m
    induction m with
    | zero =>
      intro n s k hm hk hn
      cases n with
      | zero => omega
      | succ n =>
        have : k = xs.length := by omega
        subst this
        rw [List.drop_length, forL, iter, he]
        cases fin s <;> rfl
    | succ m ih =>
      intro n s k hm hk hn
      cases n with
      | zero => omega
      | succ n =>
        have hlt : k < xs.length := by omega
        rw [List.drop_eq_getElem_cons hlt, forL, iter, hs k xs[k] s (List.getElem?_eq_getElem hlt) hlt]
        cases hb : body s xs[k] with
        | none => rfl
        | some o =>
          cases o with
          | done r => rfl
          | next s' => exact ih n s' (k + 1) (by omega) (by omega) (by omega)
  have := key (xs.length - 0) FU s0 0 rfl (Nat.zero_le _) (by have := FU_big; omega)
  simpa using this
theorem ix_nat {α : Type} (xs : List α) (k : Nat) : ix xs (k : Int) = xs[k]? := by simp [ix, leB]
theorem WR_in {n : Int} (h : -9223372036854775808 ≤ n ∧ n ≤ 9223372036854775807) : WR n = n := wrap_in h
theorem WR_succ {k : Nat} (h : k < 9223372036854775807) : WR ((k : Int) + 1) = ((k + 1 : Nat) : Int) := by rw [WR_in (by omega)]; omega
theorem ltB_nat {a b : Nat} : ltB (a : Int) (b : Int) = decide (a < b) := by simp [ltB]
theorem ltB_lt {a b : Nat} (h : a < b) : ltB (a : Int) (b : Int) = true := by simp [ltB, h]
theorem ltB_self (a : Int) : ltB a a = false := by simp [ltB]
theorem eqB_refl (a : Int) : eqB a a = true := by simp [eqB]
theorem set_at {α : Type} {xs : List α} {k : Nat} {x : α} (h : xs[k]? = some x) (y : α) : (xs.set k y)[k]? = some y := by
  have := (List.getElem?_eq_some_iff.1 h).1
  simp [this]
/-- A copy, element by element. -/
theorem iter_copy {α β : Type} {step : Int × List β → Option (Step (Int × List β) (List β))} (f : α → β) (z : β) (xs : List α) (hl : xs.length ≤ 9223372036854775806)
    (hs : ∀ (k : Nat) (x : α) (v : List β), xs[k]? = some x → v.length = xs.length → step ((k : Int), v) = some (.next (((k + 1 : Nat) : Int), v.set k (f x))))
    (he : ∀ v, step ((xs.length : Nat) , v) = some (.done v)) : iter step FU (0, List.replicate xs.length z) = some (xs.map f) := by
  have key : ∀ (m n : Nat) (k : Nat), m = xs.length - k → k ≤ xs.length → m < n → iter step n ((k : Int), (xs.take k).map f ++ List.replicate (xs.length - k) z) = some (xs.map f) := by
    intro m
    induction m with
    | zero =>
      intro n k hm hk hn
      cases n with
      | zero => omega
      | succ n =>
        have : k = xs.length := by omega
        subst this
        rw [iter, he]
        simp
    | succ m ih =>
      intro n k hm hk hn
      cases n with
      | zero => omega
      | succ n =>
        have hlt : k < xs.length := by omega
        rw [iter, hs k xs[k] _ (List.getElem?_eq_getElem hlt) (by simp; omega)]
        have e : ((xs.take k).map f ++ List.replicate (xs.length - k) z).set k (f xs[k]) = (xs.take (k + 1)).map f ++ List.replicate (xs.length - (k + 1)) z := by
          apply List.ext_getElem?
          intro j
          rw [List.getElem?_set]
          by_cases hj : k = j
          · subst hj
            rw [if_pos rfl, if_pos (by simp; omega), List.getElem?_append_left (by simp; omega)]
            simp [hlt]
          · rw [if_neg hj]
            by_cases h2 : j < k
            · rw [List.getElem?_append_left (by simp; omega), List.getElem?_append_left (by simp; omega)]
              simp [h2, show j < k + 1 by omega]
            · rw [List.getElem?_append_right (by simp; omega), List.getElem?_append_right (by simp; omega)]
              simp only [List.getElem?_replicate, List.length_map, List.length_take, Nat.min_eq_left (Nat.le_of_lt hlt), Nat.min_eq_left (show k + 1 ≤ xs.length from hlt)]
              by_cases h3 : j < xs.length
              · rw [if_pos (by omega), if_pos (by omega)]
              · rw [if_neg (by omega), if_neg (by omega)]
        show iter step n (((k + 1 : Nat) : Int), _) = _
        rw [e]
        exact ih n (k + 1) (by omega) (by omega) (by omega)
  have := key (xs.length - 0) FU 0 rfl (Nat.zero_le _) (by have := FU_big; omega)
  simpa using this
end Go.AM
set_option linter.unusedVariables false
set_option linter.unusedSimpArgs false
namespace Go.AM
attribute [local simp] ltB_self eqB_refl ix_nat
def okL {α : Type} (ok : α → Prop) (xs : List α) : Prop := xs.length ≤ 1048576 ∧ ∀ x ∈ xs, ok x
def preL {α : Type} (pre : α → Prop) (xs : List α) : Prop := xs.length ≤ 9223372036854775807 ∧ ∀ x ∈ xs, pre x
theorem forL_const {α ρ : Type} {body : Unit → α → Option (Step Unit ρ)} {fin : Unit → Option ρ} : ∀ (xs : List α), (∀ x ∈ xs, body () x = some (.next ())) → forL body fin xs () = fin ()
  | [], _ => rfl
  | x :: xs, h => by rw [forL, h x (by simp)]; exact forL_const xs (fun y hy => h y (by simp [hy]))
/-- What a count of the elements answers: -1, or something that is left, and then all is small. -/
def Sz {α : Type} (f : α → Int → Option Int) (ok pre : α → Prop) : Prop :=
  ∀ a left, pre a → 0 ≤ left → left ≤ 1048576 → ∃ r, f a left = some r ∧ r ≤ 1048576 ∧ ((ltB r 0 = true ∧ r = -1) ∨ (ltB r 0 = false ∧ 0 ≤ r ∧ ok a))
theorem lt0_t {r : Int} (h : r < 0) : ltB r 0 = true := by simp [ltB, h]
theorem lt0_f {r : Int} (h : 0 ≤ r) : ltB r 0 = false := by simp [ltB]; omega
/-- A list of flat elements. -/
theorem sz_flat {α : Type} {pre : α → Prop} {f : List α → Int → Option Int} (hf : ∀ xs left, f xs left = bif ltB (WR (left - ((xs.length : Nat) : Int))) 0 then some (-1) else some (WR (left - ((xs.length : Nat) : Int)))) : Sz f (okL fun _ => True) (preL pre) := by
  intro xs left hp h0 h1
  have := hp.1
  rw [hf, WR_in (by omega)]
  by_cases hc : left < xs.length
  · refine ⟨-1, by rw [lt0_t (by omega)]; rfl, by omega, .inl ⟨lt0_t (by omega), rfl⟩⟩
  · refine ⟨left - xs.length, by rw [lt0_f (by omega)]; rfl, by omega, .inr ⟨lt0_f (by omega), by omega, by omega, fun _ _ => trivial⟩⟩
theorem sz_list {α : Type} {e : α → Int → Option Int} {ok pre : α → Prop} {f : List α → Int → Option Int} {L : List α → Int × Int → Option (Step (Int × Int) Int)} (he : Sz e ok pre)
    (hf : ∀ xs left, f xs left = bif ltB (WR (left - ((xs.length : Nat) : Int))) 0 then some (-1) else iter (L xs) FU (WR (left - ((xs.length : Nat) : Int)), 0))
    (hL : ∀ xs v1 v2, L xs (v1, v2) = bif ltB v2 ((xs.length : Nat) : Int) then (Option.bind (ix xs v2) fun x => Option.bind (e x v1) fun r => bif ltB r 0 then dn (some (-1)) else some (.next (r, WR (v2 + 1)))) else dn (some v1)) :
    Sz f (okL ok) (preL pre) := by
  intro xs left hp h0 h1
  have hl := hp.1
  rw [hf, WR_in (by omega)]
  by_cases hc : left < xs.length
  · exact ⟨-1, by rw [lt0_t (by omega)]; rfl, by omega, .inl ⟨lt0_t (by omega), rfl⟩⟩
  · rw [lt0_f (by omega)]
    have hfor := iter_for (step := L xs) xs (fun k (s : Int) => (s, (k : Int))) (fun s x => Option.bind (e x s) fun r => bif ltB r 0 then some (.done (-1)) else some (.next r)) (fun s => some s) (by omega)
      (fun k x s hx hk => by simp [hL, ltB_lt hk, hx, WR_succ (show k < 9223372036854775807 by omega)]) (fun s => by simp [hL]) (left - xs.length)
    have key : ∀ (ys : List α) (s : Int), (∀ y ∈ ys, pre y) → 0 ≤ s → s ≤ 1048576 → ∃ r, forL (fun s x => Option.bind (e x s) fun r => bif ltB r 0 then some (.done (-1)) else some (.next r)) (fun s => some s) ys s = some r ∧ r ≤ 1048576 ∧ ((ltB r 0 = true ∧ r = -1) ∨ (ltB r 0 = false ∧ 0 ≤ r ∧ ∀ y ∈ ys, ok y)) := by
      intro ys
      induction ys with
      | nil => intro s _ h2 h3; exact ⟨s, rfl, h3, .inr ⟨lt0_f h2, h2, by simp⟩⟩
      | cons y ys ih =>
        intro s hy h2 h3
        obtain ⟨r, k1, k2, k3⟩ := he y s (hy y (by simp)) h2 h3
        rw [forL, k1]
        rcases k3 with ⟨k3, rfl⟩ | ⟨k3, k4, k5⟩
        · exact ⟨-1, by simp [k3], by omega, .inl ⟨k3, rfl⟩⟩
        · obtain ⟨q, m1, m2, m3⟩ := ih r (fun z hz => hy z (by simp [hz])) k4 k2
          refine ⟨q, by simpa [k3] using m1, m2, ?_⟩
          rcases m3 with m3 | ⟨m3, m4, m5⟩
          · exact .inl m3
          · exact .inr ⟨m3, m4, fun z hz => by rcases List.mem_cons.1 hz with rfl | hz; exact k5; exact m5 z hz⟩
    obtain ⟨r, m1, m2, m3⟩ := key xs (left - xs.length) hp.2 (by omega) (by omega)
    refine ⟨r, by simpa using hfor.trans m1, m2, ?_⟩
    rcases m3 with m3 | ⟨m3, m4, m5⟩
    · exact .inl m3
    · exact .inr ⟨m3, m4, by omega, m5⟩
theorem to_list {α : Type} {ok : α → Prop} {t : α → Option α} (z : α) {f : List α → Option (List α)} {L : List α → Int × List α → Option (Step (Int × List α) (List α))} {by_ : Nat} (hby : by_ ≤ 100000) (ht : ∀ a, ok a → t a = some a)
    (hf : ∀ xs, f xs = bif mkOk by_ ((xs.length : Nat) : Int) ((xs.length : Nat) : Int) then (Option.bind (iter (L xs) FU (0, List.replicate (((xs.length : Nat) : Int)).toNat z)) fun v => some v) else none)
    (hL : ∀ xs v1 v2, L xs (v1, v2) = bif ltB v1 ((xs.length : Nat) : Int) then (Option.bind (ix xs v1) fun x => Option.bind (t x) fun r => Option.bind (ix v2 v1) fun _ => some (.next (WR (v1 + 1), v2.set v1.toNat r))) else some (.done v2)) :
    ∀ xs, okL ok xs → f xs = some xs := by
  intro xs hx
  have hl := hx.1
  have := iter_copy (step := L xs) id z xs (by omega)
    (fun k x v hx' hv => by
      have hk := (List.getElem?_eq_some_iff.1 hx').1
      simp [hL, ltB_lt hk, hx', ht x (hx.2 x (List.mem_of_getElem? hx')), WR_succ (show k < 9223372036854775807 by omega), List.getElem?_eq_getElem (show k < v.length by omega)])
    (fun v => by simp [hL])
  simp only [List.map_id] at this
  have hm : mkOk by_ ((xs.length : Nat) : Int) ((xs.length : Nat) : Int) = true := by
    simp only [mkOk, decide_eq_true_eq]
    have h1 : by_ * xs.length ≤ 100000 * 1048576 := Nat.mul_le_mul hby hl
    have h2 : ((by_ * xs.length : Nat) : Int) ≤ 104857600000 := by omega
    rw [Int.natCast_mul] at h2
    omega
  rw [hf, hm]
  simp [this]
theorem eq_list {α : Type} {ok : α → Prop} {e : α → α → Option Bool} {f : List α → List α → Option Bool} {L : List α → List α → Int → Option (Step Int Bool)} (he : ∀ a, ok a → e a a = some true)
    (hf : ∀ xs ys, f xs ys = bif !eqB ((xs.length : Nat) : Int) ((ys.length : Nat) : Int) then some false else iter (L xs ys) FU 0)
    (hL : ∀ xs ys v1, L xs ys v1 = bif ltB v1 ((xs.length : Nat) : Int) then (Option.bind (ix xs v1) fun x => Option.bind (ix ys v1) fun y => Option.bind (e x y) fun r => bif !r then dn (some false) else some (.next (WR (v1 + 1)))) else dn (some true)) :
    ∀ xs, okL ok xs → f xs xs = some true := by
  intro xs hx
  have hl := hx.1
  have := iter_for (step := L xs xs) xs (fun k (_ : Unit) => (k : Int)) (fun _ x => Option.bind (e x x) fun r => bif !r then some (.done false) else some (.next ())) (fun _ => some true) (by omega)
    (fun k x s hx' hk => by simp [hL, ltB_lt hk, hx', WR_succ (show k < 9223372036854775807 by omega)]) (fun s => by simp [hL]) ()
  rw [hf, eqB_refl]
  simp only [Bool.not_true, cond_false]
  refine Eq.trans (show iter (L xs xs) FU 0 = _ from this) ?_
  exact forL_const xs (fun x hx' => by simp [he x (hx.2 x hx')])
/-- The marked list. -/
def marks {α : Type} (g : Int → α) (c : Int) : Nat → Int → List α
  | 0, _ => []
  | n + 1, k => g k :: marks g c n (k + c)
theorem marks_len {α : Type} (g : Int → α) (c : Int) : ∀ n k, (marks g c n k).length = n
  | 0, _ => rfl
  | n + 1, k => by simp [marks, marks_len g c n]
theorem marks_at {α : Type} (g : Int → α) (c : Int) : ∀ (n : Nat) (k : Int) (j : Nat), j < n → (marks g c n k)[j]? = some (g (k + c * j))
  | n + 1, k, 0, _ => by simp [marks]
  | n + 1, k, j + 1, h => by
    rw [marks, List.getElem?_cons_succ, marks_at g c n (k + c) j (by omega)]
    congr 2
    rw [Int.natCast_add, Int.mul_add]; omega
theorem mark_list {α : Type} (g : Int → α) (c : Nat) (hc : c ≤ 100) {L : Int × Int × List α → Option (Step (Int × Int × List α) (Int × List α))}
    (hL : ∀ (k : Int) (i : Nat) (v : List α), i < v.length → v.length ≤ 1048576 → 0 ≤ k → k ≤ 1000000000 → L (k, (i : Int), v) = some (.next (k + c, ((i + 1 : Nat) : Int), v.set i (g k))))
    (hE : ∀ (k : Int) (v : List α), L (k, ((v.length : Nat) : Int), v) = some (.done (k, v))) (xs : List α) (hx : xs.length ≤ 1048576) :
    iter L FU (1, 0, xs) = some (1 + (c : Int) * (xs.length : Int), marks g c xs.length 1) := by
  have hcl : ∀ j : Nat, j ≤ xs.length → (c : Int) * j ≤ 104857600 ∧ 0 ≤ (c : Int) * j := fun j hj => by
    have h1 : c * j ≤ 100 * 1048576 := Nat.mul_le_mul hc (by omega)
    have h2 : ((c * j : Nat) : Int) ≤ 104857600 ∧ 0 ≤ ((c * j : Nat) : Int) := by omega
    rwa [Int.natCast_mul] at h2
  have key : ∀ (m n : Nat) (j : Nat), m = xs.length - j → j ≤ xs.length → m < n → iter L n (1 + (c : Int) * j, (j : Int), (marks g c xs.length 1).take j ++ xs.drop j) = some (1 + (c : Int) * (xs.length : Int), marks g c xs.length 1) := by
    intro m
    induction m with
    | zero =>
      intro n j hm hj hn
      cases n with
      | zero => omega
      | succ n =>
        have : j = xs.length := by omega
        subst this
        have hlen : ((marks g c xs.length 1).take xs.length ++ xs.drop xs.length).length = xs.length := by simp [marks_len]
        have := hE (1 + (c : Int) * xs.length) ((marks g c xs.length 1).take xs.length ++ xs.drop xs.length)
        rw [hlen] at this
        rw [iter, this]
        simp [List.take_of_length_le (Nat.le_of_eq (marks_len g c xs.length 1))]
    | succ m ih =>
      intro n j hm hj hn
      cases n with
      | zero => omega
      | succ n =>
        have hlt : j < xs.length := by omega
        have := hcl j hj
        rw [iter, hL _ j _ (by simp [marks_len]; omega) (by simp [marks_len]; omega) (by omega) (by omega)]
        have e : ((marks g c xs.length 1).take j ++ xs.drop j).set j (g (1 + (c : Int) * j)) = (marks g c xs.length 1).take (j + 1) ++ xs.drop (j + 1) := by
          rw [List.set_append_right _ _ (by simp [marks_len]; omega)]
          simp only [List.length_take, marks_len, Nat.min_eq_left hj, Nat.sub_self]
          rw [List.drop_eq_getElem_cons hlt, List.set_cons_zero, List.take_add_one, marks_at g c _ _ j hlt]
          simp
        show iter L n (1 + (c : Int) * j + c, ((j + 1 : Nat) : Int), _) = _
        rw [e, show (1 + (c : Int) * j + c) = 1 + (c : Int) * ((j + 1 : Nat) : Int) from by rw [Int.natCast_add, Int.mul_add]; omega]
        exact ih n (j + 1) (by omega) (by omega) (by omega)
  have := key (xs.length - 0) FU 0 rfl (Nat.zero_le _) (by have := FU_big; omega)
  simpa using this
theorem held_list {α : Type} (g : Int → α) (c : Nat) (hc : c ≤ 100) {L : List α → Int × Int → Option (Step (Int × Int) Int)}
    (hL : ∀ (xs : List α) (k : Int) (i : Nat), xs[i]? = some (g k) → 0 ≤ k → k ≤ 1000000000 → i ≤ 1048576 → L xs (k, (i : Int)) = some (.next (k + c, ((i + 1 : Nat) : Int))))
    (hE : ∀ (xs : List α) (k : Int), L xs (k, ((xs.length : Nat) : Int)) = some (.done k)) (n0 : Nat) (hx : n0 ≤ 1048576) :
    iter (L (marks g c n0 1)) FU (1, 0) = some (1 + (c : Int) * n0) := by
  have hcl : ∀ j : Nat, j ≤ n0 → (c : Int) * j ≤ 104857600 ∧ 0 ≤ (c : Int) * j := fun j hj => by
    have h1 : c * j ≤ 100 * 1048576 := Nat.mul_le_mul hc (by omega)
    have h2 : ((c * j : Nat) : Int) ≤ 104857600 ∧ 0 ≤ ((c * j : Nat) : Int) := by omega
    rwa [Int.natCast_mul] at h2
  have key : ∀ (m n : Nat) (j : Nat), m = n0 - j → j ≤ n0 → m < n → iter (L (marks g c n0 1)) n (1 + (c : Int) * j, (j : Int)) = some (1 + (c : Int) * n0) := by
    intro m
    induction m with
    | zero =>
      intro n j hm hj hn
      cases n with
      | zero => omega
      | succ n =>
        have : j = n0 := by omega
        subst this
        have := hE (marks g c j 1) (1 + (c : Int) * j)
        rw [marks_len] at this
        rw [iter, this]
    | succ m ih =>
      intro n j hm hj hn
      cases n with
      | zero => omega
      | succ n =>
        have := hcl j hj
        rw [iter, hL _ _ j (marks_at g c n0 1 j (by omega)) (by omega) (by omega) (by omega)]
        show iter _ n (1 + (c : Int) * j + c, ((j + 1 : Nat) : Int)) = _
        rw [show (1 + (c : Int) * j + c) = 1 + (c : Int) * ((j + 1 : Nat) : Int) from by rw [Int.natCast_add, Int.mul_add]; omega]
        exact ih n (j + 1) (by omega) (by omega) (by omega)
  have := key (n0 - 0) FU 0 rfl (Nat.zero_le _) (by have := FU_big; omega)
  simpa using this
/-- The wanted elements, one behind the other. -/
def fappB {α β : Type} (by_ : Nat) (p : α → Bool) (f : α → β) (acc : List β) (x : α) : Option (Step (List β) (List β)) :=
  bif p x then (bif apOk by_ (acc ++ [f x]).length then some (.next (acc ++ [f x])) else none) else some (.next acc)
theorem fapp_eq {α β : Type} {by_ : Nat} (hb : by_ ≤ 100000) (p : α → Bool) (f : α → β) : ∀ (xs : List α) (acc : List β), acc.length + xs.length ≤ 1048576 → forL (fappB by_ p f) some xs acc = some (acc ++ (xs.filter p).map f)
  | [], acc, h => by simp [forL]
  | x :: xs, acc, h => by
    simp only [List.length_cons] at h
    rw [forL]
    cases hp : p x with
    | false =>
      rw [List.filter_cons_of_neg (by simp [hp])]
      simpa [fappB, hp] using fapp_eq hb p f xs acc (by omega)
    | true =>
      have ha : apOk by_ (acc ++ [f x]).length = true := by
        have h1 : (acc ++ [f x]).length * by_ ≤ 1048577 * 100000 := Nat.mul_le_mul (by simp; omega) hb
        simp only [apOk, decide_eq_true_eq]
        refine ⟨by omega, by simp; omega⟩
      rw [List.filter_cons_of_pos (by simp [hp])]
      simp only [fappB, hp, ha, cond_true]
      rw [fapp_eq hb p f xs (acc ++ [f x]) (by simp; omega)]
      simp
theorem filt_len {α β : Type} (p : α → Bool) (f : α → β) (xs : List α) : ((xs.filter p).map f).length ≤ xs.length := by simp; exact List.length_filter_le _ _
/-- A loop that counts from lo up to hi. -/
theorem iter_cnt {σ τ ρ : Type} {step : τ → Option (Step τ ρ)} (lo hi : Nat) (hlh : lo ≤ hi) (hhi : hi ≤ 9223372036854775806) (mk : Nat → σ → τ) (body : σ → Nat → Option (Step σ ρ)) (fin : σ → Option ρ)
    (hs : ∀ (k : Nat) (s : σ), lo ≤ k → k < hi → step (mk k s) = stepM (mk (k + 1)) (body s k)) (he : ∀ s, step (mk hi s) = dn (fin s)) (s0 : σ) : iter step FU (mk lo s0) = forL body fin (List.range' lo (hi - lo)) s0 := by
  have := iter_for (step := step) (List.range' lo (hi - lo)) (fun k s => mk (lo + k) s) body fin (by simp; omega)
    (fun k x s hx hk => by
      simp only [List.length_range'] at hk
      have : x = lo + k := by simpa [List.getElem?_range', hk] using hx.symm
      subst this
      exact hs (lo + k) s (by omega) (by omega)) (fun s => by
      rw [List.length_range', show lo + (hi - lo) = hi from by omega]; exact he s) s0
  simpa using this
theorem forL_grow {α β : Type} {m : Nat} {body : List β → α → Option (Step (List β) (List β))} (h : ∀ s x, s.length ≤ m → ∃ s', body s x = some (.next s') ∧ s'.length ≤ s.length + 1) : ∀ (xs : List α) (s : List β), s.length + xs.length ≤ m + 1 → ∃ r, forL body some xs s = some r ∧ r.length ≤ s.length + xs.length
  | [], s, _ => ⟨s, rfl, by simp⟩
  | x :: xs, s, hl => by
    simp only [List.length_cons] at hl
    obtain ⟨s', h1, h2⟩ := h s x (by omega)
    obtain ⟨r, h3, h4⟩ := forL_grow h xs s' (by omega)
    exact ⟨r, by rw [forL, h1]; exact h3, by simp; omega⟩
theorem apOk_small {by_ n : Nat} (hb : by_ ≤ 100000) (hn : n ≤ 1048577) : apOk by_ n = true := by
  have h1 : n * by_ ≤ 1048577 * 100000 := Nat.mul_le_mul hn hb
  simp only [apOk, decide_eq_true_eq]
  omega
def okU8 (n : Int) : Prop := 0 ≤ n ∧ n ≤ 255
theorem wf_u8 {n : Int} (h : (Lit.int .u8 n).wf = true) : okU8 n := by
  simp [Lit.wf, IntKind.min, IntKind.max, IntKind.signed, IntKind.bits] at h
  exact ⟨by omega, by omega⟩
/-- The first place where p holds, or -1. -/
theorem find_rule {α : Type} {L : Int → Option (Step Int Int)} (xs : List α) (p : α → Bool) (hl : xs.length ≤ 9223372036854775806)
    (hs : ∀ (k : Nat) (x : α), xs[k]? = some x → k < xs.length → L (k : Int) = bif p x then some (.done (k : Int)) else some (.next ((k + 1 : Nat) : Int))) (he : L ((xs.length : Nat) : Int) = some (.done (-1))) :
    iter L FU 0 = some (idxF p 0 xs) := by
  have key : ∀ (m n : Nat) (k : Nat), m = xs.length - k → k ≤ xs.length → m < n → iter L n (k : Int) = some (idxF p k (xs.drop k)) := by
    intro m
    induction m with
    | zero =>
      intro n k hm hk hn
      cases n with
      | zero => omega
      | succ n =>
        have : k = xs.length := by omega
        subst this
        rw [iter, he, List.drop_length, idxF]
    | succ m ih =>
      intro n k hm hk hn
      cases n with
      | zero => omega
      | succ n =>
        have hlt : k < xs.length := by omega
        rw [iter, hs k xs[k] (List.getElem?_eq_getElem hlt) hlt, idx_drop hlt]
        cases p xs[k] with
        | true => rfl
        | false => exact ih n (k + 1) (by omega) (by omega) (by omega)
  have := key (xs.length - 0) FU 0 rfl (Nat.zero_le _) (by have := FU_big; omega)
  simpa using this
theorem idx_cases {α : Type} (p : α → Bool) : ∀ (xs : List α) (i : Nat), idxF p (i : Int) xs = -1 ∧ (∀ x ∈ xs, p x = false) ∨ ∃ j : Nat, idxF p (i : Int) xs = ((i + j : Nat) : Int) ∧ ∃ x, xs[j]? = some x ∧ p x = true ∧ ∀ y ∈ xs.take j, p y = false
  | [], i => .inl ⟨rfl, by simp⟩
  | x :: xs, i => by
    rw [idxF]
    cases hp : p x with
    | true => exact .inr ⟨0, by simp, x, rfl, hp, by simp⟩
    | false =>
      rcases idx_cases p xs (i + 1) with ⟨h1, h2⟩ | ⟨j, h1, y, h2, h3, h4⟩
      · exact .inl ⟨by simpa using h1, by simp [hp]; exact h2⟩
      · refine .inr ⟨j + 1, ?_, y, by simpa using h2, h3, by simp [hp]; exact h4⟩
        have : idxF p ((i : Int) + 1) xs = ((i + 1 + j : Nat) : Int) := by simpa using h1
        simp only [cond_false]
        rw [this]; omega
/-- Is there an element? -/
theorem any_rule {α : Type} {L : Int → Option (Step Int Bool)} (xs : List α) (p : α → Bool) (hl : xs.length ≤ 9223372036854775806)
    (hs : ∀ (k : Nat) (x : α), xs[k]? = some x → k < xs.length → L (k : Int) = bif p x then some (.done true) else some (.next ((k + 1 : Nat) : Int))) (he : L ((xs.length : Nat) : Int) = some (.done false)) :
    iter L FU 0 = some (xs.any p) := by
  have := iter_for (step := L) xs (fun k (_ : Unit) => (k : Int)) (fun _ x => bif p x then some (.done true) else some (.next ())) (fun _ => some false) hl
    (fun k x s hx hk => by rw [hs k x hx hk]; cases p x <;> rfl) (fun s => by rw [he]; rfl) ()
  refine Eq.trans (show iter L FU 0 = _ from this) ?_
  have key : ∀ xs : List α, forL (fun (_ : Unit) x => bif p x then some (Step.done true) else some (.next ())) (fun _ => some false) xs () = some (xs.any p) := by
    intro xs
    induction xs with
    | nil => rfl
    | cons x xs ih => rw [forL]; cases hp : p x <;> simp [hp, ih]
  exact key xs
/-- Are all so? -/
theorem all_rule {α : Type} {L : Int → Option (Step Int Bool)} (xs : List α) (p : α → Bool) (hl : xs.length ≤ 9223372036854775806)
    (hs : ∀ (k : Nat) (x : α), xs[k]? = some x → k < xs.length → L (k : Int) = bif p x then some (.next ((k + 1 : Nat) : Int)) else some (.done false)) (he : L ((xs.length : Nat) : Int) = some (.done true)) :
    iter L FU 0 = some (xs.all p) := by
  have := iter_for (step := L) xs (fun k (_ : Unit) => (k : Int)) (fun _ x => bif p x then some (.next ()) else some (.done false)) (fun _ => some true) hl
    (fun k x s hx hk => by rw [hs k x hx hk]; cases p x <;> rfl) (fun s => by rw [he]; rfl) ()
  refine Eq.trans (show iter L FU 0 = _ from this) ?_
  have key : ∀ xs : List α, forL (fun (_ : Unit) x => bif p x then some (.next ()) else some (Step.done false)) (fun _ => some true) xs () = some (xs.all p) := by
    intro xs
    induction xs with
    | nil => rfl
    | cons x xs ih => rw [forL]; cases hp : p x <;> simp [hp, ih]
  exact key xs
end Go.AM
set_option linter.unusedVariables false
namespace Go.AM
/-! marks of which only the number counts -/
def Mk {α : Type} (f : α → Int → Option Int) (ok : α → Prop) (B : Int) : Prop :=
  ∀ a k, ok a → 0 ≤ k → k + B ≤ 9223372036854775807 → ∃ k', f a k = some k' ∧ k ≤ k' ∧ k' ≤ k + B
theorem mk_list {α : Type} {f : List α → Int → Option Int} {L : List α → Int × Int → Option (Step (Int × Int) Int)} {ok : α → Prop} {b B : Int} (hb : 0 ≤ b) (hB : 1048576 * b ≤ B)
    (hf : ∀ xs k, f xs k = Option.bind (iter (L xs) FU (k, 0)) fun r => some r)
    (he : ∀ xs k, L xs (k, ((xs.length : Nat) : Int)) = some (.done k))
    (hs : ∀ (xs : List α) (k : Int) (i : Nat) (x : α), xs[i]? = some x → i < xs.length → xs.length ≤ 1048576 → ok x → 0 ≤ k → k + b ≤ 9223372036854775807 → ∃ k', L xs (k, (i : Int)) = some (.next (k', ((i + 1 : Nat) : Int))) ∧ k ≤ k' ∧ k' ≤ k + b) :
    Mk f (okL ok) B := by
  intro xs k hok h0 h1
  have key : ∀ (m n i : Nat) (k : Int), m = xs.length - i → i ≤ xs.length → m < n → 0 ≤ k → k + m * b ≤ 9223372036854775807 → ∃ k', iter (L xs) n (k, (i : Int)) = some k' ∧ k ≤ k' ∧ k' ≤ k + m * b := by
    intro m
    induction m with
    | zero =>
      intro n i k hm hi hn hk hkb
      cases n with
      | zero => omega
      | succ n =>
        have : i = xs.length := by omega
        subst this
        exact ⟨k, by rw [iter, he], by omega, by omega⟩
    | succ m ih =>
      intro n i k hm hi hn hk hkb
      cases n with
      | zero => omega
      | succ n =>
        have hlt : i < xs.length := by omega
        have hmul : ((m + 1 : Nat) : Int) * b = m * b + b := by rw [Int.natCast_add, Int.add_mul]; simp
        have hmb : 0 ≤ (m : Int) * b := Int.mul_nonneg (by omega) hb
        rw [hmul] at hkb
        obtain ⟨k1, e1, l1, u1⟩ := hs xs k i xs[i] (List.getElem?_eq_getElem hlt) hlt hok.1 (hok.2 _ (List.getElem_mem hlt)) hk (by omega)
        obtain ⟨k2, e2, l2, u2⟩ := ih n (i + 1) k1 (by omega) (by omega) (by omega) (by omega) (by omega)
        exact ⟨k2, by rw [iter, e1]; exact e2, by omega, by rw [hmul]; omega⟩
  have hlb : (xs.length : Int) * b ≤ 1048576 * b := Int.mul_le_mul_of_nonneg_right (by have := hok.1; omega) hb
  obtain ⟨k', e, l, u⟩ := key xs.length FU 0 k (by omega) (by omega) (by have := FU_big; have := hok.1; omega) h0 (by omega)
  exact ⟨k', by rw [hf]; show Option.bind (iter (L xs) FU (k, ((0 : Nat) : Int))) _ = _; rw [e]; rfl, l, by omega⟩
/-- Over the elements, all must be so; then the answer is c. -/
theorem allK {α : Type} {L : Int → Option (Step Int Bool)} (xs : List α) (p : Nat → α → Bool) (c : Option Bool) (hl : xs.length ≤ 9223372036854775806)
    (hs : ∀ (k : Nat) (x : α), xs[k]? = some x → k < xs.length → L (k : Int) = bif p k x then some (.next ((k + 1 : Nat) : Int)) else some (.done false)) (he : L ((xs.length : Nat) : Int) = dn c) :
    iter L FU 0 = bif xs.zipIdx.all (fun y => p y.2 y.1) then c else some false := by
  have := iter_for (step := L) xs.zipIdx (fun k (_ : Unit) => (k : Int)) (fun _ y => bif p y.2 y.1 then some (.next ()) else some (.done false)) (fun _ => c) (by simpa using hl)
    (fun k y s hy hk => by
      have hk' : k < xs.length := by simpa using hk
      have : y = (xs[k], k) := by rw [List.getElem?_eq_getElem hk] at hy; simpa using hy.symm
      subst this
      rw [hs k xs[k] (List.getElem?_eq_getElem hk') hk']; cases p k xs[k] <;> rfl) (fun s => by rw [List.length_zipIdx, he]) ()
  refine Eq.trans (show iter L FU 0 = _ from this) ?_
  have key : ∀ ys : List (α × Nat), forL (fun (_ : Unit) y => bif p y.2 y.1 then some (.next ()) else some (Step.done false)) (fun _ => c) ys () = bif ys.all (fun y => p y.2 y.1) then c else some false := by
    intro ys
    induction ys with
    | nil => rfl
    | cons x xs ih => rw [forL]; cases hp : p x.2 x.1 <;> simp [hp, ih]
  exact key _
def inR (n a b : Int) : Bool := leB a n && leB n b
theorem inR_iff {n a b : Int} : inR n a b = true ↔ a ≤ n ∧ n ≤ b := by simp [inR, leB]
theorem inR_and (i : Int) (m n : Nat) : (inR i 0 ((m : Int) - 1) && inR i 0 ((n : Int) - 1)) = inR i 0 ((if (n : Int) < m then (n : Int) else m) - 1) := by
  rw [Bool.eq_iff_iff, Bool.and_eq_true, inR_iff, inR_iff, inR_iff]
  split <;> omega
theorem WR_pred {n : Nat} (h : n ≤ 1048576) : WR ((n : Int) - 1) = (n : Int) - 1 := WR_in (by omega)
theorem ix_in {α : Type} {xs : List α} {i : Int} (h0 : 0 ≤ i) (h1 : i < xs.length) : ∃ x, x ∈ xs ∧ ix xs i = some x := by
  obtain ⟨k, rfl⟩ := Int.eq_ofNat_of_zero_le h0
  have hk : k < xs.length := by omega
  exact ⟨xs[k], List.getElem_mem hk, by rw [ix_nat, List.getElem?_eq_getElem hk]⟩
theorem booB_refl (b : Bool) : booB b b = true := by simp
end Go.AM
set_option linter.unusedVariables false
set_option linter.unusedSimpArgs false
namespace Go.AM
open Go.Proofs
attribute [local simp] ltB_self eqB_refl ix_nat
/-! sums that are hashed -/
theorem iInRange_eq (n a b : Int) : iInRange n a b = some (inR n a b) := by unfold iInRange inR; cases leB a n <;> rfl
theorem sl1In_eq (n a b : Int) : sl1In n a b = some (inR n a b) := by unfold sl1In inR; cases leB a n <;> rfl
theorem tmod_emod (x m : Int) : (Int.tmod x m) % m = x % m := by
  have h := Int.mul_tdiv_add_tmod x m
  have h2 : x % m = (m * x.tdiv m + x.tmod m) % m := by rw [h]
  rw [h2, Int.mul_add_emod_self_left]
theorem tmod_abs {m : Int} (x : Int) (hm : 0 < m) : -m < Int.tmod x m ∧ Int.tmod x m < m := ⟨Int.lt_tmod_of_pos x hm, Int.tmod_lt_of_pos x hm⟩
theorem mod_neg {r m : Int} (h1 : -m < r) (h2 : r < 0) : r % m = r + m := by
  rw [← Int.add_emod_right r m, Int.emod_eq_of_lt (by omega) (by omega)]
theorem iMod_eq (x : Int) {m : Int} (h1 : 1 ≤ m) (h2 : m ≤ 1000000000000) : iMod x m = some (x % m) := by
  obtain ⟨a, b⟩ := tmod_abs x (show 0 < m by omega)
  have hr : inR m 1 1000000000000 = true := inR_iff.2 ⟨h1, h2⟩
  have hz : (!eqB m 0) = true := by simp [eqB]; omega
  simp only [iMod, iInRange_eq, hr, hz, Option.bind_some, Bool.not_true, cond_false, cond_true]
  rw [← tmod_emod x m]
  by_cases h : Int.tmod x m < 0
  · rw [show ltB (Int.tmod x m) 0 = true from lt0_t h, mod_neg a h]
    simp only [cond_true, Option.bind_some]
    rw [WR_in (by omega)]
  · rw [show ltB (Int.tmod x m) 0 = false from lt0_f (by omega), Int.emod_eq_of_lt (by omega) b]
    simp only [cond_false, Option.bind_some]
theorem sMod_eq (x : Int) {m : Int} (h1 : 1 ≤ m) (h2 : m ≤ 1000000000000) : sMod x m = some (x % m) := by
  obtain ⟨a, b⟩ := tmod_abs x (show 0 < m by omega)
  have hr : inR m 1 1000000000000 = true := inR_iff.2 ⟨h1, h2⟩
  have hz : (!eqB m 0) = true := by simp [eqB]; omega
  simp only [sMod, sl1In_eq, hr, hz, Option.bind_some, Bool.not_true, cond_false, cond_true]
  rw [WR_in (by omega), Int.tmod_eq_emod_of_nonneg (by omega), Int.add_emod_right, tmod_emod]
abbrev hM : Int := 2147483647
def hstep (v x : Int) : Int := (v * 1000003 + x % hM + 13) % hM
theorem hstep_in (v x : Int) : 0 ≤ hstep v x ∧ hstep v x < hM := ⟨Int.emod_nonneg _ (by decide), Int.emod_lt_of_pos _ (by decide)⟩
theorem raw_eq {v x : Int} (h0 : 0 ≤ v) (h1 : v < hM) : Int.tmod (WR (WR (WR (v * 1000003) + x % hM) + 13)) hM = hstep v x := by
  have a := Int.emod_nonneg x (show hM ≠ 0 by decide)
  have b := Int.emod_lt_of_pos x (show 0 < hM by decide)
  unfold hM at *
  rw [WR_in (n := v * 1000003) (by omega), WR_in (n := v * 1000003 + x % 2147483647) (by omega), WR_in (n := v * 1000003 + x % 2147483647 + 13) (by omega), Int.tmod_eq_emod_of_nonneg (by omega)]
  rfl
theorem ihashStep_eq {v x : Int} (h0 : 0 ≤ v) (h1 : v < hM) : ihashStep v x = some (hstep v x) := by
  rw [ihashStep, iMod_eq x (by omega) (by omega)]
  simp only [Option.bind_some]
  rw [raw_eq h0 h1]
def hfold (v : Int) (xs : List Int) : Int := xs.foldl hstep v
theorem hfold_in {v : Int} (h0 : 0 ≤ v) (h1 : v < hM) : ∀ (xs : List Int), 0 ≤ hfold v xs ∧ hfold v xs < hM
  | [] => ⟨h0, h1⟩
  | x :: xs => hfold_in (hstep_in v x).1 (hstep_in v x).2 xs
theorem fold_run : ∀ (xs : List Int) (v : Int), 0 ≤ v → v < hM → forL (fun (s x : Int) => some (Step.next (ρ := Int) (Int.tmod (WR (WR (WR (s * 1000003) + x % hM) + 13)) hM))) some xs v = some (hfold v xs)
  | [], v, _, _ => rfl
  | x :: xs, v, h0, h1 => by
    rw [forL, raw_eq h0 h1]
    exact fold_run xs _ (hstep_in v x).1 (hstep_in v x).2
theorem sHash_eq {xs : List Int} (hl : xs.length ≤ 1048576) : sHash xs = some (hfold 11 xs) := by
  have := iter_for (step := sHash_L1 xs) xs (fun k (s : Int) => (s, (k : Int))) (fun s x => some (Step.next (Int.tmod (WR (WR (WR (s * 1000003) + x % hM) + 13)) hM))) some (by omega)
    (fun k x s hx hk => by
      simp only [sHash_L1, ltB_lt hk, ix_nat, hx, sMod_eq x (m := 2147483647) (by omega) (by omega), WR_succ (show k < 9223372036854775807 by omega), Option.bind_some, cond_true]; rfl) (fun s => by simp [sHash_L1]) 11
  rw [sHash, show iter (sHash_L1 xs) FU (11, 0) = _ from this, fold_run xs 11 (by decide) (by decide)]
  rfl
theorem ifold_run : ∀ (xs : List Int) (v : Int), 0 ≤ v → v < hM → forL (fun (s x : Int) => Option.bind (ihashStep s x) fun r => some (Step.next (ρ := Int) r)) some xs v = some (hfold v xs)
  | [], v, _, _ => rfl
  | x :: xs, v, h0, h1 => by
    rw [forL, ihashStep_eq h0 h1]
    exact ifold_run xs _ (hstep_in v x).1 (hstep_in v x).2
def khash (k : Int) (xs : List Int) : Int := hstep (hfold (hstep 11 k) xs) k
theorem khash_in (k : Int) (xs : List Int) : 0 ≤ khash k xs ∧ khash k xs < hM := hstep_in _ _
theorem iKeyedHash_eq {xs : List Int} (hl : xs.length ≤ 1048576) (k : Int) : iKeyedHash k xs = some (khash k xs) := by
  have := iter_for (step := iKeyedHash_L1 xs) xs (fun k (s : Int) => (s, (k : Int))) (fun s x => Option.bind (ihashStep s x) fun r => some (Step.next r)) some (by omega)
    (fun k x s hx hk => by
      simp only [iKeyedHash_L1, ltB_lt hk, ix_nat, hx, WR_succ (show k < 9223372036854775807 by omega), Option.bind_some, cond_true]
      cases ihashStep s x <;> rfl) (fun s => by simp [iKeyedHash_L1]) (hstep 11 k)
  rw [iKeyedHash, ihashStep_eq (by decide) (by decide)]
  simp only [Option.bind_some]
  have h2 := hstep_in 11 k
  rw [show iter (iKeyedHash_L1 xs) FU (hstep 11 k, 0) = _ from this, ifold_run xs _ h2.1 h2.2]
  have h3 := hfold_in h2.1 h2.2 xs
  simp only [Option.bind_some]
  rw [ihashStep_eq h3.1 h3.2]
  rfl
theorem sKeyedHash_eq {xs : List Int} (hl : xs.length ≤ 100000) (k : Int) : sKeyedHash k xs = some (khash k xs) := by
  have a1 : apOk 8 ([k] ++ xs).length = true := apOk_small (by omega) (by simp; omega)
  have a2 : apOk 8 (([k] ++ xs) ++ [k]).length = true := apOk_small (by omega) (by simp; omega)
  rw [sKeyedHash, a1, a2]
  simp only [cond_true]
  rw [sHash_eq (by simp; omega)]
  simp [hfold, khash]
end Go.AM
set_option linter.unusedVariables false
set_option linter.unusedSimpArgs false
namespace Go.AM
open Go.Proofs
attribute [local simp] ltB_self eqB_refl ix_nat
/-! what is drawn -/
theorem and_nn (x : Int) (m : Nat) (hm : m < 9223372036854775808) : 0 ≤ bAnd .i64 x (m : Int) ∧ bAnd .i64 x (m : Int) ≤ m := by
  unfold bAnd
  have h1 : (BitVec.ofInt IntKind.i64.bits x &&& BitVec.ofInt IntKind.i64.bits (m : Int)).toNat ≤ m := by
    rw [BitVec.toNat_and]
    refine Nat.le_trans Nat.and_le_right ?_
    show (BitVec.ofInt 64 (m : Int)).toNat ≤ m
    rw [BitVec.toNat_ofInt]
    omega
  rw [wrap_in (by omega)]
  omega
structure curOK (c : Tl1Cur) : Prop where
  l : c.fb.length ≤ 1048576
  u : ∀ x ∈ c.fb, okU8 x
  a : 0 ≤ c.fi
  b : c.fi ≤ c.fb.length
theorem byte_ok {c : Tl1Cur} (h : curOK c) : ∃ v c', sl1Byte c = some (v, c') ∧ 0 ≤ v ∧ v ≤ 255 ∧ curOK c' := by
  unfold sl1Byte
  have := h.l
  have ha := h.a
  have hb := h.b
  by_cases hi : c.fi < c.fb.length
  · obtain ⟨x, hx, e⟩ := ix_in h.a hi
    rw [show ltB c.fi ((c.fb.length : Nat) : Int) = true from by simp [ltB, hi]]
    simp only [cond_true, e, Option.bind_some]
    refine ⟨_, _, rfl, (and_nn _ 255 (by omega)).1, (and_nn _ 255 (by omega)).2, ⟨h.l, h.u, ?_, ?_⟩⟩
    · show 0 ≤ WR (c.fi + 1); rw [WR_in (by omega)]; omega
    · show WR (c.fi + 1) ≤ (c.fb.length : Int); rw [WR_in (by omega)]; omega
  · rw [show ltB c.fi ((c.fb.length : Nat) : Int) = false from by simp [ltB]; omega]
    simp only [cond_false, Option.bind_some]
    exact ⟨_, _, rfl, (and_nn _ 255 (by omega)).1, (and_nn _ 255 (by omega)).2, ⟨h.l, h.u, h.a, h.b⟩⟩
theorem tmod_in {v n : Int} (hv : 0 ≤ v) (hn : 0 < n) : 0 ≤ Int.tmod v n ∧ Int.tmod v n < n := by
  rw [Int.tmod_eq_emod_of_nonneg hv]
  exact ⟨Int.emod_nonneg _ (by omega), Int.emod_lt_of_pos _ hn⟩
theorem below_ok {c : Tl1Cur} (h : curOK c) {n : Int} (hn : 1 ≤ n) : ∃ v c', sl1Below c n = some (v, c') ∧ 0 ≤ v ∧ v < n ∧ curOK c' := by
  unfold sl1Below
  rw [show leB n 0 = false from by simp [leB]; omega]
  have hz : (!eqB n 0) = true := by simp [eqB]; omega
  simp only [cond_false, hz, cond_true]
  by_cases h2 : n ≤ 256
  · rw [show leB n 256 = true from by simp [leB, h2]]
    obtain ⟨v, c', e, h0, h1, hc⟩ := byte_ok h
    have := tmod_in h0 (show 0 < n by omega)
    simp only [cond_true, e, Option.bind_some]
    exact ⟨_, _, rfl, this.1, this.2, hc⟩
  · rw [show leB n 256 = false from by simp [leB]; omega]
    obtain ⟨v, c1, e, h0, h1, hc⟩ := byte_ok h
    obtain ⟨v2, c2, e2, h02, h12, hc2⟩ := byte_ok hc
    obtain ⟨v3, c3, e3, h03, h13, hc3⟩ := byte_ok hc2
    simp only [cond_false, e, e2, e3, Option.bind_some]
    rw [WR_in (n := v * 65536) (by omega), WR_in (n := v2 * 256) (by omega), WR_in (n := v * 65536 + v2 * 256) (by omega), WR_in (n := v * 65536 + v2 * 256 + v3) (by omega)]
    have := tmod_in (v := v * 65536 + v2 * 256 + v3) (by omega) (show 0 < n by omega)
    exact ⟨_, _, rfl, this.1, this.2, hc3⟩
theorem once_ok {c : Tl1Cur} (h : curOK c) {n : Int} (hn : 1 ≤ n) : ∃ v c', sl1Once c n = some (v, c') ∧ curOK c' := by
  obtain ⟨v, c', e, _, _, hc⟩ := below_ok h hn
  exact ⟨_, _, by rw [sl1Once, e]; rfl, hc⟩
theorem new_ok {xs : List Int} (hl : xs.length ≤ 1048576) (hu : ∀ x ∈ xs, okU8 x) : ∃ c, sl1New xs = some c ∧ curOK c ∧ c.fb = xs := by
  have key : ∀ (m n k : Nat) (v : Int), m = xs.length - k → k ≤ xs.length → m < n → ∃ r, iter (sl1New_L1 xs) n (v, (k : Int)) = some r := by
    intro m
    induction m with
    | zero =>
      intro n k v hm hk hn
      cases n with
      | zero => omega
      | succ n =>
        have : k = xs.length := by omega
        subst this
        exact ⟨v, by rw [iter]; simp [sl1New_L1]⟩
    | succ m ih =>
      intro n k v hm hk hn
      cases n with
      | zero => omega
      | succ n =>
        have hlt : k < xs.length := by omega
        rw [iter]
        simp only [sl1New_L1, ltB_lt hlt, cond_true, Option.bind_some, ix_nat, List.getElem?_eq_getElem hlt, WR_succ (show k < 9223372036854775807 by omega)]
        cases ltB (k : Int) 4000
        · exact ⟨v, rfl⟩
        · exact ih n (k + 1) _ (by omega) (by omega) (by omega)
  obtain ⟨r, hr⟩ := key xs.length FU 0 (WR (193017 + ((xs.length : Nat) : Int))) (by omega) (by omega) (by have := FU_big; omega)
  refine ⟨⟨xs, 0, r⟩, ?_, ⟨hl, hu, Int.le_refl 0, Int.natCast_nonneg _⟩, rfl⟩
  rw [sl1New, show iter (sl1New_L1 xs) FU (WR (193017 + ((xs.length : Nat) : Int)), 0) = some r from hr]
  rfl
end Go.AM
set_option linter.unusedVariables false
set_option linter.unusedSimpArgs false
namespace Go.AM
open Go.Proofs
attribute [local simp] ltB_self eqB_refl ix_nat
abbrev Reg := TRegistration
def idP (i : TSubscriberID) (x : Reg) : Bool := eqB x.ID.Network i.Network && (eqB x.ID.Number i.Number && true)
def tP (n : Int) (t : TTempID) (x : Reg) : Bool := eqB x.Network n && (eqB x.TempID.Pool t.Pool && (eqB x.TempID.Number t.Number && true))
theorem iFindRegistration_eq {xs : List Reg} (hl : xs.length ≤ 2000000) (i : TSubscriberID) : iFindRegistration xs i = some (idxF (idP i) 0 xs) :=
  find_rule xs (idP i) (by omega) (fun k x hx hk => by
    simp only [iFindRegistration_L1, ltB_lt hk, ix_nat, hx, WR_succ (show k < 9223372036854775807 by omega), idP, Option.bind_some, cond_true]
    cases eqB x.ID.Network i.Network && (eqB x.ID.Number i.Number && true) <;> rfl) (by simp [iFindRegistration_L1])
theorem sFindRegistration_eq {xs : List Reg} (hl : xs.length ≤ 2000000) (i : TSubscriberID) : sFindRegistration xs i = some (idxF (idP i) 0 xs) :=
  find_rule xs (idP i) (by omega) (fun k x hx hk => by
    simp only [sFindRegistration_L1, ltB_lt hk, ix_nat, hx, WR_succ (show k < 9223372036854775807 by omega), idP, Option.bind_some, cond_true]
    cases eqB x.ID.Network i.Network && (eqB x.ID.Number i.Number && true) <;> rfl) (by simp [sFindRegistration_L1])
theorem sl21Temp_eq {xs : List Reg} (hl : xs.length ≤ 2000000) (n : Int) (t : TTempID) : sl21Temp xs n t = some (idxF (tP n t) 0 xs) :=
  find_rule xs (tP n t) (by omega) (fun k x hx hk => by
    simp only [sl21Temp_L1, ltB_lt hk, ix_nat, hx, WR_succ (show k < 9223372036854775807 by omega), tP, Option.bind_some, cond_true]
    cases eqB x.Network n <;> cases eqB x.TempID.Pool t.Pool && (eqB x.TempID.Number t.Number && true) <;> rfl) (by simp [sl21Temp_L1])
def vSub (x : TSubscriberID) : Bool := inR x.Network 0 3 && inR x.Number 0 99
theorem iIsValidSubscriberID_eq (x : TSubscriberID) : iIsValidSubscriberID x = some (vSub x) := by simp only [iIsValidSubscriberID, iInRange_eq, vSub, Option.bind_some]; cases inR x.Network 0 3 <;> rfl
theorem sIsValidSubscriberID_eq (x : TSubscriberID) : sIsValidSubscriberID x = some (vSub x) := by simp only [sIsValidSubscriberID, sl1In_eq, vSub, Option.bind_some]; cases inR x.Network 0 3 <;> rfl
def vTmp (x : TTempID) : Bool := inR x.Pool 0 3 && inR x.Number 0 9999
theorem iIsValidTempID_eq (x : TTempID) : iIsValidTempID x = some (vTmp x) := by simp only [iIsValidTempID, iInRange_eq, vTmp, Option.bind_some]; cases inR x.Pool 0 3 <;> rfl
theorem sIsValidTempID_eq (x : TTempID) : sIsValidTempID x = some (vTmp x) := by simp only [sIsValidTempID, sl1In_eq, vTmp, Option.bind_some]; cases inR x.Pool 0 3 <;> rfl
/-- What one entry must be. -/
def vOne (xs : List Reg) (k : Nat) (x : Reg) : Bool := vSub x.ID && (inR x.Network 0 3 && (inR x.Area 0 2 && (vTmp x.TempID && (!(xs.take k).any (idP x.ID) && !(xs.take k).any (tP x.Network x.TempID)))))
def vRegs (xs : List Reg) : Bool := leB ((xs.length : Nat) : Int) 8 && xs.zipIdx.all (fun y => vOne xs y.2 y.1)
theorem leB_not (a b : Int) : ltB a b = !leB b a := by
  by_cases h : a < b
  · rw [show ltB a b = true from by simp [ltB, h], show leB b a = false from by simp [leB]; omega]; rfl
  · rw [show ltB a b = false from by simp [ltB]; omega, show leB b a = true from by simp [leB]; omega]; rfl
theorem sAreValid_eq {xs : List Reg} (hl : xs.length ≤ 2000000) : sAreValidRegistrations xs = some (vRegs xs) := by
  have := allK (L := sAreValidRegistrations_L1 xs) xs (fun k x => vOne xs k x) (some (leB ((xs.length : Nat) : Int) 8)) (by omega)
    (fun k x hx hk => by
      have hsl : slOk xs 0 (k : Int) = true := by simp [slOk]; omega
      have ht : (xs.take k).length ≤ 2000000 := by simp; omega
      simp only [sAreValidRegistrations_L1, ltB_lt hk, ix_nat, hx, sIsValidSubscriberID_eq, sIsValidTempID_eq, sl1In_eq, hsl, sFindRegistration_eq ht, sl21Temp_eq ht, Int.toNat_natCast, WR_succ (show k < 9223372036854775807 by omega), Option.bind_some, cond_true, idx_nonneg (show (0 : Int) ≤ 0 by omega), vOne]
      cases vSub x.ID <;> cases inR x.Network 0 3 <;> cases inR x.Area 0 2 <;> cases vTmp x.TempID <;> cases (xs.take k).any (idP x.ID) <;> cases (xs.take k).any (tP x.Network x.TempID) <;> rfl) (by simp [sAreValidRegistrations_L1])
  unfold sAreValidRegistrations vRegs
  rw [this]
  cases leB ((xs.length : Nat) : Int) 8 <;> cases xs.zipIdx.all (fun y => vOne xs y.2 y.1) <;> rfl
theorem any_or {α : Type} (p q : α → Bool) : ∀ (l : List α), l.any (fun x => p x || q x) = (l.any p || l.any q)
  | [] => rfl
  | x :: l => by rw [List.any_cons, List.any_cons, List.any_cons, any_or p q l]; cases p x <;> cases q x <;> cases l.any p <;> rfl
theorem iAreValid_eq {xs : List Reg} (hl : xs.length ≤ 2000000) : iAreValidRegistrations xs = some (vRegs xs) := by
  have hin : ∀ (k : Nat) (x : Reg), k < xs.length → iter (iAreValidRegistrations_L2 xs (k : Int) x) FU 0 = bif (xs.take k).any (fun y => idP x.ID y || tP x.Network x.TempID y) then some (.done false) else some (.next ((k + 1 : Nat) : Int)) := by
    intro k x hk
    have := iter_for (step := iAreValidRegistrations_L2 xs (k : Int) x) (xs.take k) (fun j (_ : Unit) => (j : Int)) (fun _ y => bif idP x.ID y || tP x.Network x.TempID y then some (.done (.done false)) else some (.next ())) (fun _ => some (.next ((k + 1 : Nat) : Int))) (by simp; omega)
      (fun j y s hy hj => by
        have hj' : j < (xs.take k).length := hj
        simp only [iAreValidRegistrations_L2, Int.toNat_natCast, ltB_lt hj', ix_nat, hy, WR_succ (show j < 9223372036854775807 by simp at hj; omega), Option.bind_some, cond_true, idP, tP]
        cases eqB y.ID.Network x.ID.Network && (eqB y.ID.Number x.ID.Number && true) <;> cases eqB y.Network x.Network <;> cases eqB y.TempID.Pool x.TempID.Pool && (eqB y.TempID.Number x.TempID.Number && true) <;> rfl)
      (fun s => by simp only [iAreValidRegistrations_L2, Int.toNat_natCast, ltB_self, cond_false, WR_succ (show k < 9223372036854775807 by omega)]) ()
    refine Eq.trans (show iter (iAreValidRegistrations_L2 xs (k : Int) x) FU 0 = _ from this) ?_
    have key : ∀ ys : List Reg, forL (fun (_ : Unit) y => bif idP x.ID y || tP x.Network x.TempID y then some (Step.done (Step.done false)) else some (.next ())) (fun _ => some (Step.next (ρ := Bool) ((k + 1 : Nat) : Int))) ys () = bif ys.any (fun y => idP x.ID y || tP x.Network x.TempID y) then some (.done false) else some (.next ((k + 1 : Nat) : Int)) := by
      intro ys
      induction ys with
      | nil => rfl
      | cons y ys ih =>
        rw [forL, List.any_cons]
        cases hp : (idP x.ID y || tP x.Network x.TempID y) with
        | true => rfl
        | false => simp only [cond_false, Bool.false_or]; exact ih
    exact key _
  have := allK (L := iAreValidRegistrations_L1 xs) xs (fun k x => vOne xs k x) (some true) (by omega)
    (fun k x hx hk => by
      have hsl : slOk xs 0 (k : Int) = true := by simp [slOk]; omega
      simp only [iAreValidRegistrations_L1, ltB_lt hk, ix_nat, hx, iIsValidSubscriberID_eq, iIsValidTempID_eq, iInRange_eq, hsl, hin k x hk, any_or, Option.bind_some, cond_true, vOne]
      cases vSub x.ID <;> cases inR x.Network 0 3 <;> cases inR x.Area 0 2 <;> cases vTmp x.TempID <;> cases (xs.take k).any (idP x.ID) <;> cases (xs.take k).any (tP x.Network x.TempID) <;> rfl) (by simp [iAreValidRegistrations_L1])
  unfold iAreValidRegistrations vRegs
  rw [this, leB_not]
  cases leB ((xs.length : Nat) : Int) 8 <;> cases xs.zipIdx.all (fun y => vOne xs y.2 y.1) <;> rfl
theorem cpL_self {α : Type} (z : α) (xs : List α) : cpL (List.replicate (((xs.length : Nat) : Int)).toNat z) xs = xs := by
  simp [cpL]
theorem icopy_eq {xs : List Reg} (hl : xs.length ≤ 1048576) : icopyItems_impl_Registration xs = some xs := by
  have hm : mkOk 48 ((xs.length : Nat) : Int) ((xs.length : Nat) : Int) = true := by simp only [mkOk, decide_eq_true_eq]; omega
  rw [icopyItems_impl_Registration, hm, cpL_self]; rfl
theorem scopy_eq {xs : List Reg} (hl : xs.length ≤ 1048576) : sl21Copy xs = some xs := by
  have : apOk 48 (([] : List Reg) ++ xs).length = true := apOk_small (by omega) (by simp; omega)
  rw [sl21Copy, this]; rfl
theorem idx_at {α : Type} {p : α → Bool} {xs : List α} (h : leB 0 (idxF p 0 xs) = true) : ∃ (j : Nat) (x : α), idxF p 0 xs = (j : Int) ∧ xs[j]? = some x ∧ p x = true := by
  rcases idx_cases p xs 0 with ⟨h1, _⟩ | ⟨j, h1, x, h2, h3, _⟩
  · have h1' : idxF p 0 xs = -1 := h1
    rw [h1'] at h; simp [leB] at h
  · exact ⟨j, x, by simpa using h1, h2, h3⟩
/-- What the register becomes. -/
def regU (xs : List Reg) (r : Reg) : List Reg × Int × Bool :=
  let k := idxF (idP r.ID) 0 xs
  let ys := bif leB 0 k then xs.set k.toNat r else xs ++ [r]
  let old := bif leB 0 k then (match xs[k.toNat]? with | some x => x.Network | none => -1) else -1
  bif vRegs ys then (ys, old, true) else (xs, -1, false)
theorem iRegister_eq {xs : List Reg} (hl : xs.length ≤ 1048576) (r : Reg) : iRegister xs r = some (regU xs r) := by
  simp only [iRegister, icopy_eq (show xs.length ≤ 1048576 by omega), iFindRegistration_eq (show xs.length ≤ 2000000 by omega), Option.bind_some, regU]
  cases hk : leB 0 (idxF (idP r.ID) 0 xs) with
  | false =>
    have ha : apOk 48 (xs ++ [r]).length = true := apOk_small (by omega) (by simp; omega)
    simp only [cond_false, ha, cond_true, Option.bind_some]
    rw [iAreValid_eq (by simp; omega)]
    cases hv : vRegs (xs ++ [r]) <;> simp [hv]
  | true =>
    obtain ⟨j, x, e, hx, _⟩ := idx_at hk
    simp only [e, cond_true, ix_nat, hx, Int.toNat_natCast, Option.bind_some]
    rw [iAreValid_eq (by simp; omega)]
    cases hv : vRegs (xs.set j r) <;> simp [hv]
theorem sRegister_eq {xs : List Reg} (hl : xs.length ≤ 1048576) (r : Reg) : sRegister xs r = some (regU xs r) := by
  simp only [sRegister, scopy_eq (show xs.length ≤ 1048576 by omega), sFindRegistration_eq (show xs.length ≤ 2000000 by omega), Option.bind_some, regU]
  cases hk : leB 0 (idxF (idP r.ID) 0 xs) with
  | false =>
    have ha : apOk 48 (xs ++ [r]).length = true := apOk_small (by omega) (by simp; omega)
    simp only [cond_false, ha, cond_true, Option.bind_some]
    rw [sAreValid_eq (by simp; omega)]
    cases hv : vRegs (xs ++ [r]) <;> simp [hv]
  | true =>
    obtain ⟨j, x, e, hx, _⟩ := idx_at hk
    simp only [e, cond_true, ix_nat, hx, Int.toNat_natCast, Option.bind_some]
    rw [sAreValid_eq (by simp; omega)]
    cases hv : vRegs (xs.set j r) <;> simp [hv]
end Go.AM
set_option linter.unusedVariables false
set_option linter.unusedSimpArgs false
namespace Go.AM
open Go.Proofs
attribute [local simp] ltB_self eqB_refl ix_nat
def vAgr (d : TRoamingAgreement) : Bool := inR d.Home 0 3 && (inR d.Visited 0 3 && (!eqB d.Home d.Visited && (inR d.Price 0 1000 && inR d.Cap 0 1000000000000)))
theorem iIsValidAgreement_eq (d : TRoamingAgreement) : iIsValidAgreement d = some (vAgr d) := by
  simp only [iIsValidAgreement, iInRange_eq, vAgr, Option.bind_some]
  cases inR d.Home 0 3 <;> cases inR d.Visited 0 3 <;> cases eqB d.Home d.Visited <;> cases inR d.Price 0 1000 <;> rfl
theorem sIsValidAgreement_eq (d : TRoamingAgreement) : sIsValidAgreement d = some (vAgr d) := by
  simp only [sIsValidAgreement, sl1In_eq, vAgr, Option.bind_some]
  cases inR d.Home 0 3 <;> cases inR d.Visited 0 3 <;> cases eqB d.Home d.Visited <;> cases inR d.Price 0 1000 <;> rfl
def agP (h v : Int) (d : TRoamingAgreement) : Bool := eqB d.Home h && eqB d.Visited v
theorem iFindAgreement_eq {xs : List TRoamingAgreement} (hl : xs.length ≤ 1048576) (h v : Int) : iFindAgreement xs h v = some (idxF (agP h v) 0 xs) :=
  find_rule xs (agP h v) (by omega) (fun k x hx hk => by
    simp only [iFindAgreement_L1, ltB_lt hk, ix_nat, hx, WR_succ (show k < 9223372036854775807 by omega), agP, Option.bind_some, cond_true]
    cases eqB x.Home h <;> cases eqB x.Visited v <;> rfl) (by simp [iFindAgreement_L1])
theorem sFindAgreement_eq {xs : List TRoamingAgreement} (hl : xs.length ≤ 1048576) (h v : Int) : sFindAgreement xs h v = some (idxF (agP h v) 0 xs) :=
  find_rule xs (agP h v) (by omega) (fun k x hx hk => by
    simp only [sFindAgreement_L1, ltB_lt hk, ix_nat, hx, WR_succ (show k < 9223372036854775807 by omega), agP, Option.bind_some, cond_true]
    cases eqB x.Home h <;> cases eqB x.Visited v <;> rfl) (by simp [sFindAgreement_L1])
theorem eqB_comm (a b : Int) : eqB a b = eqB b a := by
  by_cases h : a = b
  · subst h; rfl
  · rw [show eqB a b = false from by simp [eqB, h], show eqB b a = false from by simp [eqB, Ne.symm h]]
theorem gIndex_eq {xs : List Int} (hl : xs.length ≤ 1048576) (n : Int) : gslices_Index_int_int xs n = some (idxF (eqB n) 0 xs) :=
  find_rule xs (eqB n) (by omega) (fun k x hx hk => by
    simp only [gslices_Index_int_int_L1, ltB_lt hk, ix_nat, hx, WR_succ (show k < 9223372036854775807 by omega), Option.bind_some, cond_true]
    cases eqB n x <;> rfl) (by simp [gslices_Index_int_int_L1])
theorem gContains_eq {xs : List Int} (hl : xs.length ≤ 1048576) (n : Int) : gslices_Contains_int_int xs n = some (xs.any (eqB n)) := by
  rw [gslices_Contains_int_int, gIndex_eq hl, Option.bind_some, idx_nonneg (by omega)]
theorem sHas_eq {xs : List Int} (hl : xs.length ≤ 1048576) (n : Int) : sl10Has xs n = some (xs.any (eqB n)) :=
  any_rule xs (eqB n) (by omega) (fun k x hx hk => by
    simp only [sl10Has_L1, ltB_lt hk, ix_nat, hx, WR_succ (show k < 9223372036854775807 by omega), Option.bind_some, cond_true, eqB_comm n x]
    cases eqB x n <;> rfl) (by simp [sl10Has_L1])
def rAll (s : TSubscription) (h n : Int) : Bool := eqB n h || s.RoamingNetworks.any (eqB n)
theorem iRoamingAllowed_eq {s : TSubscription} (hl : s.RoamingNetworks.length ≤ 1048576) (h n : Int) : iRoamingAllowed s h n = some (rAll s h n) := by
  simp only [iRoamingAllowed, gContains_eq hl, rAll, Option.bind_some]; cases eqB n h <;> rfl
theorem sRoamingAllowed_eq {s : TSubscription} (hl : s.RoamingNetworks.length ≤ 1048576) (h n : Int) : sRoamingAllowed s h n = some (rAll s h n) := by
  simp only [sRoamingAllowed, sHas_eq hl, rAll, Option.bind_some]; cases eqB n h <;> rfl
theorem check_eq {s : TSubscription} {xs : List TRoamingAgreement} (h1 : s.RoamingNetworks.length ≤ 1048576) (h2 : xs.length ≤ 1048576) (i : TSubscriberID) (n : Int) : ∃ r, iCheckRoaming s xs i n = some r ∧ sCheckRoaming s xs i n = some r := by
  simp only [iCheckRoaming, sCheckRoaming, iInRange_eq, sl1In_eq, iIsValidSubscriberID_eq, sIsValidSubscriberID_eq, iRoamingAllowed_eq h1, sRoamingAllowed_eq h1, iFindAgreement_eq h2, sFindAgreement_eq h2, iIsValidAgreement_eq, sIsValidAgreement_eq, Option.bind_some]
  rcases idx_cases (agP i.Network n) xs 0 with ⟨h3, _⟩ | ⟨j, h3, x, h4, _⟩
  · have h3' : idxF (agP i.Network n) 0 xs = -1 := h3
    rw [h3', show ltB (-1) 0 = true from lt0_t (by omega)]
    simp only [cond_true, Option.bind_some]
    cases inR n 0 3 <;> cases vSub i <;> cases eqB n i.Network <;> cases rAll s i.Network n <;> exact ⟨_, rfl, rfl⟩
  · have h3' : idxF (agP i.Network n) 0 xs = (j : Int) := by simpa using h3
    rw [h3', show ltB (j : Int) 0 = false from lt0_f (by omega)]
    simp only [ix_nat, h4, cond_false, Option.bind_some]
    cases inR n 0 3 <;> cases vSub i <;> cases eqB n i.Network <;> cases rAll s i.Network n <;> cases vAgr x <;> exact ⟨_, rfl, rfl⟩
/-- The temporary identities of a network's registrations. -/
def tempsB (net : Int) (acc : List TTempID) (x : TRegistration) : Option (Step (List TTempID) (List TTempID)) :=
  bif eqB x.Network net then (bif apOk 16 (acc ++ [x.TempID]).length then some (.next (acc ++ [x.TempID])) else none) else some (.next acc)
theorem iTempIDsIn_eq {xs : List TRegistration} (h : xs.length ≤ 1048576) (net : Int) : iTempIDsIn xs net = forL (tempsB net) some xs [] := by
  have := iter_for (step := iTempIDsIn_L1 xs net) xs (fun k (s : List TTempID) => ((k : Int), s)) (tempsB net) some (by omega)
    (fun k x s hx hk => by
      simp only [iTempIDsIn_L1, ltB_lt hk, ix_nat, hx, WR_succ (show k < 9223372036854775807 by omega), tempsB, Option.bind_some, cond_true]
      cases eqB x.Network net <;> cases apOk 16 (s ++ [x.TempID]).length <;> rfl) (fun s => by simp [iTempIDsIn_L1]) []
  simpa [iTempIDsIn] using this
theorem temps_some (net : Int) : ∀ (xs : List TRegistration) (acc : List TTempID), acc.length + xs.length ≤ 1048576 → ∃ r, forL (tempsB net) some xs acc = some r ∧ r.length ≤ acc.length + xs.length
  | [], acc, h => ⟨acc, rfl, by simp⟩
  | x :: xs, acc, h => by
    simp only [List.length_cons] at h
    rw [forL]
    cases hb : eqB x.Network net with
    | false =>
      obtain ⟨r, h1, h2⟩ := temps_some net xs acc (by omega)
      exact ⟨r, by simpa [tempsB, hb] using h1, by simp; omega⟩
    | true =>
      have ha : apOk 16 (acc ++ [x.TempID]).length = true := by simp [apOk]; omega
      obtain ⟨r, h1, h2⟩ := temps_some net xs (acc ++ [x.TempID]) (by simp; omega)
      refine ⟨r, ?_, by simp at h2 ⊢; omega⟩
      simp only [tempsB, hb, ha, cond_true]
      exact h1

def tidP (t x : TTempID) : Bool := eqB x.Pool t.Pool && (eqB x.Number t.Number && true)
theorem gHasT_eq {xs : List TTempID} (hl : xs.length ≤ 1048576) (t : TTempID) : gslices_Contains_impl_TempID_impl_TempID xs t = some (xs.any (tidP t)) := by
  have := find_rule (L := gslices_Index_impl_TempID_impl_TempID_L1 xs t) xs (tidP t) (by omega) (fun k x hx hk => by
    simp only [gslices_Index_impl_TempID_impl_TempID_L1, ltB_lt hk, ix_nat, hx, WR_succ (show k < 9223372036854775807 by omega), tidP, Option.bind_some, cond_true, eqB_comm t.Pool x.Pool, eqB_comm t.Number x.Number]
    cases eqB x.Pool t.Pool && (eqB x.Number t.Number && true) <;> rfl) (by simp [gslices_Index_impl_TempID_impl_TempID_L1])
  rw [gslices_Contains_impl_TempID_impl_TempID, gslices_Index_impl_TempID_impl_TempID, this]
  simp only [Option.bind_some, idx_nonneg (show (0 : Int) ≤ 0 by omega)]
def cand (k p : Int) (i : TSubscriberID) (a : Int) : TTempID := ⟨p, khash k [i.Network, i.Number, a] % 10000⟩
theorem iCand_eq (k p : Int) (i : TSubscriberID) (a : Int) : iTempIDCandidate k p i a = some (cand k p i a) := by
  rw [iTempIDCandidate, iKeyedHash_eq (by simp)]
  simp only [Option.bind_some]
  rw [Int.tmod_eq_emod_of_nonneg (khash_in _ _).1]
  rfl
theorem sCand_eq (k p : Int) (i : TSubscriberID) (a : Int) : sTempIDCandidate k p i a = some (cand k p i a) := by
  rw [sTempIDCandidate, sKeyedHash_eq (by simp)]
  simp only [Option.bind_some]
  rw [sMod_eq _ (by omega) (by omega)]
  rfl
theorem alloc_eq {xs : List TTempID} (hl : xs.length ≤ 1048576) (k p : Int) (i : TSubscriberID) : ∃ r, iAllocateTempID k p i xs = some r ∧ (r.2 = true → ∃ a, r.1 = cand k p i a ∧ xs.any (tidP r.1) = false) := by
  have := iter_cnt (step := iAllocateTempID_L1 k p i xs) 0 50 (by omega) (by omega) (fun j (_ : Unit) => (j : Int))
    (fun _ j => bif !xs.any (tidP (cand k p i (j : Int))) then some (.done (cand k p i (j : Int), true)) else some (.next ())) (fun _ => some ((⟨0, 0⟩ : TTempID), false))
    (fun j s h1 h2 => by
      have h4 : ltB (j : Int) 50 = true := ltB_lt (a := j) (b := 50) h2
      simp only [iAllocateTempID_L1, h4, iCand_eq, gHasT_eq hl, Option.bind_some, cond_true, WR_succ (show j < 9223372036854775807 by omega)]
      cases xs.any (tidP (cand k p i (j : Int))) <;> rfl)
    (fun s => by simp only [iAllocateTempID_L1, show ltB ((50 : Nat) : Int) 50 = false from ltB_self 50, cond_false]) ()
  have key : ∀ l : List Nat, ∃ r, forL (fun (_ : Unit) (j : Nat) => bif !xs.any (tidP (cand k p i (j : Int))) then some (Step.done (cand k p i (j : Int), true)) else some (.next ())) (fun _ => some ((⟨0, 0⟩ : TTempID), false)) l () = some r ∧ (r.2 = true → ∃ a, r.1 = cand k p i a ∧ xs.any (tidP r.1) = false) := by
    intro l
    induction l with
    | nil => exact ⟨_, rfl, fun h => by cases h⟩
    | cons j l ih =>
      rw [forL]
      cases hq : xs.any (tidP (cand k p i (j : Int)))
      · exact ⟨_, rfl, fun _ => ⟨_, rfl, hq⟩⟩
      · exact ih
  obtain ⟨r, hr, hr2⟩ := key (List.range' 0 (50 - 0))
  have h1 : iAllocateTempID k p i xs = some r := by rw [iAllocateTempID]; exact this.trans hr
  exact ⟨r, h1, hr2⟩
theorem regU_len {xs : List Reg} (r : Reg) : (regU xs r).1.length ≤ xs.length + 1 := by
  unfold regU
  simp only
  cases leB 0 (idxF (idP r.ID) 0 xs) with
  | false => cases vRegs (bif false then xs.set (idxF (idP r.ID) 0 xs).toNat r else xs ++ [r]) <;> simp
  | true => cases vRegs (bif true then xs.set (idxF (idP r.ID) 0 xs).toNat r else xs ++ [r]) <;> simp
theorem regU_len8 {xs : List Reg} (r : Reg) (hl : xs.length ≤ 1048576) : (regU xs r).1.length ≤ 1048576 := by
  unfold regU
  simp only
  generalize hy : (bif leB 0 (idxF (idP r.ID) 0 xs) then xs.set (idxF (idP r.ID) 0 xs).toNat r else xs ++ [r]) = ys
  cases hv : vRegs ys with
  | false => simpa using hl
  | true =>
    have : leB ((ys.length : Nat) : Int) 8 = true := by simp only [vRegs, Bool.and_eq_true] at hv; exact hv.1
    simp only [leB, decide_eq_true_eq] at this
    simp only [cond_true]; omega
end Go.AM
set_option linter.unusedVariables false
set_option linter.unusedSimpArgs false
namespace Go.AM
/-! what a partial result is, if it is -/
def Wp {α : Type} (m : Option α) (Q : α → Prop) : Prop := match m with
  | some a => Q a
  | none => False
theorem Wp.ex {α : Type} {m : Option α} {Q : α → Prop} (h : Wp m Q) : ∃ a, m = some a ∧ Q a := by
  cases m with
  | none => exact h.elim
  | some a => exact ⟨a, rfl, h⟩
theorem Wp.of {α : Type} {m : Option α} {Q : α → Prop} {a : α} (h : m = some a) (q : Q a) : Wp m Q := by subst h; exact q
theorem Wp.some {α : Type} {a : α} {Q : α → Prop} (h : Q a) : Wp (some a) Q := h
theorem Wp.bind {α β : Type} {m : Option α} {k : α → Option β} {Q : β → Prop} (h : Wp m (fun a => Wp (k a) Q)) : Wp (Option.bind m k) Q := by
  cases m with
  | none => exact h.elim
  | some a => exact h
theorem Wp.mono {α : Type} {m : Option α} {P Q : α → Prop} (h : Wp m P) (k : ∀ a, P a → Q a) : Wp m Q := by
  cases m with
  | none => exact h.elim
  | some a => exact k a h
theorem Wp.call {α β : Type} {m : Option α} {k : α → Option β} {P : α → Prop} {Q : β → Prop} (h : Wp m P) (hk : ∀ a, P a → Wp (k a) Q) : Wp (Option.bind m k) Q := Wp.bind (h.mono hk)
theorem Wp.eq {α β : Type} {m : Option α} {k : α → Option β} {a : α} {Q : β → Prop} (h : m = .some a) (hk : Wp (k a) Q) : Wp (Option.bind m k) Q := by subst h; exact hk
theorem Wp.cond {α : Type} {b : Bool} {x y : Option α} {Q : α → Prop} (h1 : b = true → Wp x Q) (h0 : b = false → Wp y Q) : Wp (bif b then x else y) Q := by
  cases b
  · exact h0 rfl
  · exact h1 rfl
theorem Wp.ok {α : Type} {b : Bool} {x : Option α} {Q : α → Prop} (hb : b = true) (h : Wp x Q) : Wp (bif b then x else none) Q := by subst hb; exact h
theorem Wp.iter {σ ρ : Type} {step : σ → Option (Step σ ρ)} {Q : ρ → Prop} (I : σ → Prop) (μ : σ → Nat) (h : ∀ x, I x → Wp (step x) (fun s => match s with | .next x' => I x' ∧ μ x' < μ x | .done r => Q r)) :
    ∀ (n : Nat) (x : σ), I x → μ x < n → Wp (AM.iter step n x) Q
  | 0, _, _, h => by omega
  | n + 1, x, hI, hn => by
    obtain ⟨s, e, hs⟩ := (h x hI).ex
    rw [AM.iter, e]
    cases s with
    | next x' => exact Wp.iter I μ h n x' hs.1 (by have := hs.2; omega)
    | done r => exact hs
theorem Wp.iterF {σ ρ : Type} {step : σ → Option (Step σ ρ)} {Q : ρ → Prop} (I : σ → Prop) (μ : σ → Nat) {x : σ} (hI : I x) (hn : μ x ≤ 1000000000000) (h : ∀ x, I x → Wp (step x) (fun s => match s with | .next x' => I x' ∧ μ x' < μ x | .done r => Q r)) : Wp (AM.iter step FU x) Q :=
  Wp.iter I μ h FU x hI (by have := FU_big; omega)
theorem Wp.dn {σ ρ : Type} {m : Option ρ} {Q : Step σ ρ → Prop} (h : Wp m (fun r => Q (.done r))) : Wp (AM.dn m) Q := by
  cases m with
  | none => exact h.elim
  | some r => exact h
theorem Wp.ix {α β : Type} {xs : List α} {i : Int} {k : α → Option β} {Q : β → Prop} (h0 : 0 ≤ i) (h1 : i < xs.length) (hk : ∀ x, x ∈ xs → xs[i.toNat]? = .some x → Wp (k x) Q) : Wp (Option.bind (AM.ix xs i) k) Q := by
  have hl : i.toNat < xs.length := by omega
  have hx : xs[i.toNat]? = .some xs[i.toNat] := List.getElem?_eq_getElem hl
  refine Wp.eq (a := xs[i.toNat]) ?_ (hk _ (List.getElem_mem hl) hx)
  unfold AM.ix
  rw [show leB 0 i = true from by simp [leB, h0]]
  exact hx
theorem ltBt {a b : Int} (h : ltB a b = true) : a < b := ltB_t.1 h
theorem ltBf {a b : Int} (h : ltB a b = false) : b ≤ a := ltB_f.1 h
theorem leBt {a b : Int} (h : leB a b = true) : a ≤ b := leB_t.1 h
theorem leBf {a b : Int} (h : leB a b = false) : b < a := leB_f.1 h
theorem eqBt {a b : Int} (h : eqB a b = true) : a = b := eqB_t.1 h
theorem eqBf {a b : Int} (h : eqB a b = false) : a ≠ b := eqB_f.1 h
theorem apOk_in {b n : Nat} (h : n * b ≤ 140737488355328) (h' : n ≤ 9223372036854775807) : apOk b n = true := by simp [apOk, h, h']
end Go.AM
set_option linter.unusedVariables false
set_option linter.unusedSimpArgs false
namespace Go.AM
attribute [local simp] ltB_self eqB_refl ix_nat
/-! draws -/
theorem wBelow {c : Tl1Cur} (h : curOK c) {n : Int} (hn : 1 ≤ n) : Wp (sl1Below c n) (fun r => curOK r.2 ∧ 0 ≤ r.1 ∧ r.1 < n) := by
  obtain ⟨v, c', e, h0, h1, hc⟩ := below_ok h hn
  exact Wp.of e ⟨hc, h0, h1⟩
theorem wOnce {c : Tl1Cur} (h : curOK c) {n : Int} (hn : 1 ≤ n) : Wp (sl1Once c n) (fun r => curOK r.2) := by
  obtain ⟨v, c', e, hc⟩ := once_ok h hn
  exact Wp.of e hc
theorem wInt {c : Tl1Cur} (h : curOK c) {xs : List Int} (hx : xs ≠ []) : Wp (sl1Int c xs) (fun r => curOK r.2 ∧ r.1 ∈ xs) := by
  have hl : 0 < xs.length := List.length_pos_iff.2 hx
  unfold sl1Int
  refine Wp.call (wBelow h (by omega)) fun r hr => ?_
  exact Wp.ix hr.2.1 hr.2.2 fun x hm _ => Wp.some ⟨hr.1, hm⟩
theorem wWho {c : Tl1Cur} (h : curOK c) : Wp (sl4Who c) (fun r => curOK r.2) := by
  unfold sl4Who
  exact Wp.call (wBelow h (by omega)) fun r hr => Wp.call (wBelow hr.1 (by omega)) fun r2 hr2 => Wp.some hr2.1
theorem w4Any {c : Tl1Cur} (h : curOK c) : Wp (sl4Any c) (fun r => curOK r.2) := by
  unfold sl4Any
  refine Wp.call (wWho h) fun r hr => Wp.call (wBelow hr (by omega)) fun r2 hr2 => ?_
  refine Wp.call (P := fun x => curOK ⟨x.1, x.2.1, x.2.2.1⟩) ?_ fun x hx => Wp.some hx
  refine Wp.cond (fun _ => ?_) (fun _ => ?_)
  · exact Wp.call (wInt hr2.1 (by simp)) fun r8 h8 => Wp.some h8.1
  · refine Wp.call (P := fun x => curOK ⟨x.1, x.2.1, x.2.2.1⟩) ?_ fun x hx => Wp.some hx
    exact Wp.cond (fun _ => Wp.call (wInt hr2.1 (by simp)) fun r8 h8 => Wp.some h8.1) (fun _ => Wp.some hr2.1)
theorem wPlan {c : Tl1Cur} (h : curOK c) : Wp (sl20Plan c) (fun r => curOK r.2 ∧ r.1.RoamingNetworks.length ≤ 4) := by
  unfold sl20Plan
  refine Wp.call (wBelow h (by omega)) fun r1 h1 => Wp.call (wBelow h1.1 (by omega)) fun r2 h2 => Wp.call (wBelow h2.1 (by omega)) fun r3 h3 => ?_
  refine Wp.call (P := fun x => curOK ⟨x.1, x.2.1, x.2.2.1⟩ ∧ x.2.2.2.length ≤ 4) ?_ fun x hx => Wp.some hx
  refine Wp.iterF (fun x => (0 ≤ x.1 ∧ x.1 ≤ 4) ∧ curOK ⟨x.2.1, x.2.2.1, x.2.2.2.1⟩ ∧ (x.2.2.2.2.length : Int) ≤ x.1) (fun x => (4 - x.1).toNat) ⟨⟨by omega, by omega⟩, h3.1, by simp⟩ (by simp) ?_
  rintro ⟨v4, v5, v6, v7, v8⟩ ⟨⟨i0, i1⟩, i2, i3⟩
  simp only at i0 i1 i2 i3
  simp only [sl20Plan_L1]
  refine Wp.cond (fun hb => ?_) (fun hb => Wp.some ⟨i2, by show v8.length ≤ 4; omega⟩)
  have hb := ltBt hb
  refine Wp.call (wOnce i2 (by omega)) fun r15 h15 => ?_
  refine Wp.call (P := fun x => (x.length : Int) ≤ v4 + 1) ?_ fun x hx => Wp.some ⟨⟨⟨?_, ?_⟩, h15, ?_⟩, ?_⟩
  · exact Wp.cond (fun _ => Wp.ok (apOk_in (by simp; omega) (by simp; omega)) (Wp.some (by simp; omega))) (fun _ => Wp.some (by omega))
  all_goals simp only [WR_in (show -9223372036854775808 ≤ v4 + 1 ∧ v4 + 1 ≤ 9223372036854775807 by omega)]
  all_goals omega
theorem w20Any {c : Tl1Cur} (h : curOK c) : Wp (sl20Any c) (fun r => curOK r.2 ∧ r.1.RoamingNetworks.length ≤ 5) := by
  unfold sl20Any
  refine Wp.call (wPlan h) fun r1 h1 => Wp.call (wBelow h1.1 (by omega)) fun r2 h2 => ?_
  have hl := h1.2
  refine Wp.call (P := fun x => curOK ⟨x.1, x.2.1, x.2.2.1⟩ ∧ x.2.2.2.2.2.2.length ≤ 5) ?_ fun x hx => Wp.some hx
  refine Wp.cond (fun _ => Wp.call (wInt h2.1 (by simp)) fun r8 h8 => Wp.some ⟨h8.1, by show _ ≤ 5; simp only; omega⟩) (fun _ => ?_)
  refine Wp.call (P := fun x => curOK ⟨x.1, x.2.1, x.2.2.1⟩ ∧ x.2.2.2.2.2.length ≤ 5) ?_ fun x hx => Wp.some hx
  refine Wp.cond (fun _ => Wp.call (wInt h2.1 (by simp)) fun r8 h8 => Wp.some ⟨h8.1, by show _ ≤ 5; simp only; omega⟩) (fun _ => ?_)
  refine Wp.call (P := fun x => curOK ⟨x.1, x.2.1, x.2.2.1⟩ ∧ x.2.2.2.2.length ≤ 5) ?_ fun x hx => Wp.some hx
  refine Wp.cond (fun _ => Wp.call (wBelow h2.1 (by omega)) fun r8 h8 => Wp.ok (apOk_in (by simp; omega) (by simp; omega)) (Wp.some ⟨h8.1, by simp; omega⟩)) (fun _ => ?_)
  refine Wp.call (P := fun x => curOK ⟨x.1, x.2.1, x.2.2.1⟩) ?_ fun x hx => Wp.some ⟨hx, by show _ ≤ 5; simp only; omega⟩
  exact Wp.cond (fun _ => Wp.call (wInt h2.1 (by simp)) fun r8 h8 => Wp.some h8.1) (fun _ => Wp.some h2.1)
theorem wDeal {c : Tl1Cur} (h : curOK c) : Wp (sl19Deal c) (fun r => curOK r.2) := by
  unfold sl19Deal
  exact Wp.call (wBelow h (by omega)) fun r1 h1 => Wp.call (wBelow h1.1 (by omega)) fun r2 h2 => Wp.call (wBelow h2.1 (by omega)) fun r3 h3 => Wp.call (wInt h3.1 (by simp)) fun r4 h4 => Wp.some h4.1
theorem w19Any {c : Tl1Cur} (h : curOK c) : Wp (sl19Any c) (fun r => curOK r.2) := by
  unfold sl19Any
  refine Wp.call (wDeal h) fun r1 h1 => Wp.call (wBelow h1 (by omega)) fun r2 h2 => ?_
  refine Wp.call (P := fun x => curOK ⟨x.1, x.2.1, x.2.2.1⟩) ?_ fun x hx => Wp.some hx
  refine Wp.cond (fun _ => Wp.call (wInt h2.1 (by simp)) fun r8 h8 => Wp.some h8.1) (fun _ => ?_)
  refine Wp.call (P := fun x => curOK ⟨x.1, x.2.1, x.2.2.1⟩) ?_ fun x hx => Wp.some hx
  refine Wp.cond (fun _ => Wp.call (wInt h2.1 (by simp)) fun r8 h8 => Wp.some h8.1) (fun _ => ?_)
  refine Wp.call (P := fun x => curOK ⟨x.1, x.2.1, x.2.2.1⟩) ?_ fun x hx => Wp.some hx
  exact Wp.cond (fun _ => Wp.call (wInt h2.1 (by simp)) fun r8 h8 => Wp.some h8.1) (fun _ => Wp.some h2.1)
theorem wAgreements {c : Tl1Cur} (h : curOK c) : Wp (sl37Agreements c) (fun r => curOK r.2 ∧ r.1.length ≤ 6) := by
  unfold sl37Agreements
  refine Wp.call (wBelow h (by omega)) fun r1 h1 => ?_
  refine Wp.call (P := fun x => curOK ⟨x.1, x.2.1, x.2.2.1⟩ ∧ x.2.2.2.length ≤ 5) ?_ fun x hx => ?_
  · refine Wp.iterF (fun x => (0 ≤ x.1 ∧ x.1 ≤ 5) ∧ curOK ⟨x.2.1, x.2.2.1, x.2.2.2.1⟩ ∧ (x.2.2.2.2.length : Int) + x.1 ≤ 5) (fun x => x.1.toNat) ⟨⟨by simp only; omega, by simp only; omega⟩, h1.1, by simp only [List.length_nil]; omega⟩ (by simp only; omega) ?_
    rintro ⟨v4, v5, v6, v7, v8⟩ ⟨⟨i0, i1⟩, i2, i3⟩
    simp only at i0 i1 i2 i3
    simp only [sl37Agreements_L1]
    refine Wp.cond (fun hb => ?_) (fun hb => Wp.some ⟨i2, by show v8.length ≤ 5; omega⟩)
    have hb := ltBt hb
    refine Wp.call (wDeal i2) fun r15 h15 => Wp.ok (apOk_in (by simp; omega) (by simp; omega)) (Wp.some ⟨⟨⟨?_, ?_⟩, h15, ?_⟩, ?_⟩)
    all_goals simp only [WR_in (show -9223372036854775808 ≤ v4 - 1 ∧ v4 - 1 ≤ 9223372036854775807 by omega), List.length_append, List.length_cons, List.length_nil]
    all_goals omega
  · obtain ⟨y1, y2, y3, y4⟩ := x
    refine Wp.call (wOnce hx.1 (by omega)) fun r13 h13 => ?_
    have hl : y4.length ≤ 5 := hx.2
    refine Wp.call (P := fun x => curOK ⟨x.1, x.2.1, x.2.2.1⟩ ∧ x.2.2.2.length ≤ 6) ?_ fun x hx => Wp.some hx
    exact Wp.cond (fun _ => Wp.call (w19Any h13) fun r8 h8 => Wp.ok (apOk_in (by simp; omega) (by simp; omega)) (Wp.some ⟨h8, by simp; omega⟩)) (fun _ => Wp.some ⟨h13, by simp only; omega⟩)
theorem wDrawCheckRoaming {xs : List Int} (hl : xs.length ≤ 1048576) (hu : ∀ x ∈ xs, okU8 x) : Wp (sDrawCheckRoaming xs) (fun r => r.1.RoamingNetworks.length ≤ 5 ∧ r.2.1.length ≤ 6) := by
  obtain ⟨c, e, hc, _⟩ := new_ok hl hu
  unfold sDrawCheckRoaming
  exact Wp.eq e (Wp.call (w20Any hc) fun r2 h2 => Wp.call (wAgreements h2.1) fun r3 h3 => Wp.call (w4Any h3.1) fun r4 h4 => Wp.call (wBelow h4 (by omega)) fun r5 h5 => Wp.some ⟨h2.2, h3.2⟩)
/-! access -/
theorem contains_eq {xs : List Int} (hl : xs.length ≤ 1048576) (n : Int) : lcontains xs n = some (xs.any (eqB n)) :=
  any_rule xs (eqB n) (by omega) (fun k x hx hk => by
    simp only [lcontains_L1, ltB_lt hk, ix_nat, hx, WR_succ (show k < 9223372036854775807 by omega), Option.bind_some, cond_true, eqB_comm x n]
    cases eqB n x <;> rfl) (by simp [lcontains_L1])
theorem inR_neg {n a b : Int} (h : inR n a b = false) : n < a ∨ b < n := by
  rcases Int.lt_or_le n a with h1 | h1
  · exact .inl h1
  · right
    rcases Int.lt_or_le b n with h2 | h2
    · exact h2
    · exfalso; have := inR_iff.2 ⟨h1, h2⟩; rw [this] at h; cases h
theorem lFnRoamingAccess_ok (xs : List Int) (hp : preL okU8 xs) : lFnRoamingAccess xs = some true := by
  have hu : ∀ x ∈ xs, okU8 x := hp.2
  unfold lFnRoamingAccess
  simp only [lbig, Option.bind_some]
  cases hb : ltB 1048576 ((xs.length : Nat) : Int)
  case true => rfl
  have hl : xs.length ≤ 1048576 := by have := ltBf hb; omega
  obtain ⟨⟨s, ds, i, n⟩, e, h1, h2⟩ := (wDrawCheckRoaming hl hu).ex
  simp only at h1 h2
  have h1' : s.RoamingNetworks.length ≤ 1048576 := by omega
  have h2' : ds.length ≤ 1048576 := by omega
  simp only [cond_false, e, Option.bind_some, iCheckRoaming, iInRange_eq, iIsValidSubscriberID_eq, sIsValidSubscriberID_eq, iRoamingAllowed_eq h1', iFindAgreement_eq h2', sFindAgreement_eq h2', iIsValidAgreement_eq, sIsValidAgreement_eq, contains_eq h1', iHomeRouted]
  have hout : (bif ltB n 0 then some true else bif leB 4 n then some true else some (!vSub i)) = some (!inR n 0 3 || !vSub i) := by
    cases hr : inR n 0 3 with
    | true =>
      have := inR_iff.1 hr
      rw [show ltB n 0 = false from ltB_f.2 (by omega), show leB 4 n = false from leB_f.2 (by omega)]; rfl
    | false =>
      rcases inR_neg hr with h | h
      · rw [show ltB n 0 = true from ltB_t.2 h]; rfl
      · rw [show leB 4 n = true from leB_t.2 (by omega)]; cases ltB n 0 <;> rfl
  rw [hout]
  simp only [Option.bind_some]
  cases hr : inR n 0 3
  case false => simp
  cases hv : vSub i
  case false => simp
  simp only [Bool.not_true, cond_false, Bool.or_self, Option.bind_some]
  cases he : eqB n i.Network
  case true => simp [rAll, he]
  simp only [cond_false, rAll, he, Bool.false_or, Bool.not_false, cond_true, Option.bind_some]
  cases hc : s.RoamingNetworks.any (eqB n)
  case false => simp
  simp only [Bool.not_true, cond_false, cond_true, eqB_refl, Option.bind_some]
  rcases idx_cases (agP i.Network n) ds 0 with ⟨h3, _⟩ | ⟨j, h3, x, h4, _⟩
  · have h3' : idxF (agP i.Network n) 0 ds = -1 := h3
    rw [h3', show ltB (-1) 0 = true from lt0_t (by omega)]
    simp
  · have h3' : idxF (agP i.Network n) 0 ds = (j : Int) := by simpa using h3
    rw [h3', show ltB (j : Int) 0 = false from lt0_f (by omega)]
    simp only [ix_nat, h4, cond_false, Option.bind_some]
    cases vAgr x <;> simp
end Go.AM
set_option linter.unusedVariables false
set_option linter.unusedSimpArgs false
namespace Go.AM
attribute [local simp] ltB_self eqB_refl ix_nat
/-! registers that are drawn -/
structure RegOK (xs : List Reg) : Prop where
  len : xs.length ≤ 8
  idn : ∀ x ∈ xs, 0 ≤ x.ID.Network ∧ x.ID.Network ≤ 3
  net : ∀ x ∈ xs, 0 ≤ x.Network ∧ x.Network ≤ 3
  dis : xs.Pairwise (fun a b => a.ID ≠ b.ID)
  one : ∀ x ∈ xs, vSub x.ID = true ∧ inR x.Network 0 3 = true ∧ inR x.Area 0 2 = true ∧ vTmp x.TempID = true
  dit : xs.Pairwise (fun a b => ¬ (a.Network = b.Network ∧ a.TempID = b.TempID))
theorem tP_iff {n : Int} {i : TTempID} {x : Reg} : tP n i x = true ↔ x.Network = n ∧ x.TempID = i := by
  obtain ⟨_, _, _, ⟨a, b⟩⟩ := x
  obtain ⟨n', m'⟩ := i
  simp [tP]
theorem idP_iff {i : TSubscriberID} {x : Reg} : idP i x = true ↔ x.ID = i := by
  obtain ⟨⟨n, m⟩, _, _, _⟩ := x
  obtain ⟨n', m'⟩ := i
  simp [idP]
theorem zipIdx_all {α : Type} {p : α → Nat → Bool} : ∀ {xs : List α} {k : Nat}, (xs.zipIdx k).all (fun y => p y.1 y.2) = true → ∀ (j : Nat) (x : α), xs[j]? = some x → p x (k + j) = true
  | [], k, _, j, x, h => by simp at h
  | y :: ys, k, h, j, x, hx => by
    simp only [List.zipIdx_cons, List.all_cons, Bool.and_eq_true] at h
    cases j with
    | zero => simp at hx; subst hx; exact h.1
    | succ j =>
      have := zipIdx_all h.2 j x (by simpa using hx)
      rwa [show k + 1 + j = k + (j + 1) from by omega] at this
theorem regOK_of {xs : List Reg} (h : vRegs xs = true) : RegOK xs := by
  simp only [vRegs, Bool.and_eq_true] at h
  obtain ⟨h1, h2⟩ := h
  have h1 := leBt h1
  have key : ∀ (j : Nat) (x : Reg), xs[j]? = some x → vOne xs j x = true := fun j x hx => by
    have := zipIdx_all (p := fun x k => vOne xs k x) h2 j x hx
    rwa [Nat.zero_add] at this
  have at_ : ∀ x ∈ xs, vSub x.ID = true ∧ inR x.Network 0 3 = true := fun x hx => by
    obtain ⟨j, hj⟩ := List.getElem?_of_mem hx
    have := key j x hj
    simp only [vOne, Bool.and_eq_true] at this
    exact ⟨this.1, this.2.1⟩
  have at2 : ∀ x ∈ xs, vSub x.ID = true ∧ inR x.Network 0 3 = true ∧ inR x.Area 0 2 = true ∧ vTmp x.TempID = true := fun x hx => by
    obtain ⟨j, hj⟩ := List.getElem?_of_mem hx
    have := key j x hj
    simp only [vOne, Bool.and_eq_true] at this
    exact ⟨this.1, this.2.1, this.2.2.1, this.2.2.2.1⟩
  refine ⟨by omega, fun x hx => ?_, fun x hx => ?_, ?_, at2, ?_⟩
  rotate_right
  · refine List.pairwise_iff_getElem.2 fun i j hi hj hij he => ?_
    have := key j xs[j] (List.getElem?_eq_getElem hj)
    simp only [vOne, Bool.and_eq_true, Bool.not_eq_true'] at this
    have h5 := this.2.2.2.2.2
    rw [List.any_eq_false] at h5
    refine h5 xs[i] (List.mem_iff_getElem.2 ⟨i, by simp; omega, by simp⟩) (tP_iff.2 he)
  · have := (at_ x hx).1
    simp only [vSub, Bool.and_eq_true] at this
    exact inR_iff.1 this.1
  · exact inR_iff.1 (at_ x hx).2
  · refine List.pairwise_iff_getElem.2 fun i j hi hj hij he => ?_
    have := key j xs[j] (List.getElem?_eq_getElem hj)
    simp only [vOne, Bool.and_eq_true, Bool.not_eq_true'] at this
    have h5 := this.2.2.2.2.1
    rw [List.any_eq_false] at h5
    refine h5 xs[i] (List.mem_iff_getElem.2 ⟨i, by simp; omega, by simp⟩) (idP_iff.2 he)
theorem RegOK.sub {xs ys : List Reg} (h : RegOK xs) (hs : ys.Sublist xs) : RegOK ys :=
  ⟨Nat.le_trans hs.length_le h.len, fun x hx => h.idn x (hs.subset hx), fun x hx => h.net x (hs.subset hx), h.dis.sublist hs, fun x hx => h.one x (hs.subset hx), h.dit.sublist hs⟩
theorem regOK_U {xs : List Reg} (h : RegOK xs) (r : Reg) : RegOK (regU xs r).1 := by
  unfold regU
  simp only
  generalize (bif leB 0 (idxF (idP r.ID) 0 xs) then xs.set (idxF (idP r.ID) 0 xs).toNat r else xs ++ [r]) = ys
  cases hv : vRegs ys
  · exact h
  · exact regOK_of hv
theorem wOne21 {c : Tl1Cur} (h : curOK c) : Wp (sl21One c) (fun r => curOK r.2) := by
  unfold sl21One
  exact Wp.call (wWho h) fun r1 h1 => Wp.call (wBelow h1 (by omega)) fun r2 h2 => Wp.call (wBelow h2.1 (by omega)) fun r3 h3 => Wp.call (wBelow h3.1 (by omega)) fun r4 h4 => Wp.call (wBelow h4.1 (by omega)) fun r5 h5 =>
    Wp.eq (sCand_eq _ _ _ _) (Wp.some h5.1)
theorem wDeregister {xs : List Reg} (h : RegOK xs) (i : TSubscriberID) (n : Int) : Wp (sDeregister xs i n) RegOK := by
  have hl := h.len
  unfold sDeregister
  refine Wp.eq (sFindRegistration_eq (by omega) i) ?_
  refine Wp.call (P := fun b => b = false → 0 ≤ idxF (idP i) 0 xs ∧ idxF (idP i) 0 xs < xs.length) ?_ fun b hb => ?_
  · refine Wp.cond (fun _ => Wp.some (fun e => by cases e)) (fun hb => ?_)
    rcases idx_cases (idP i) xs 0 with ⟨h3, _⟩ | ⟨j, h3, x, h4, _⟩
    · have h3' : idxF (idP i) 0 xs = -1 := h3
      rw [h3'] at hb; have := ltBf hb; omega
    · have h3' : idxF (idP i) 0 xs = (j : Int) := by simpa using h3
      have hj : j < xs.length := (List.getElem?_eq_some_iff.1 h4).1
      rw [h3']
      exact Wp.ix (by omega) (by omega) fun x _ _ => Wp.some (fun _ => ⟨by omega, by omega⟩)
  · refine Wp.cond (fun _ => Wp.eq (scopy_eq (by omega)) (Wp.some h)) (fun hb' => ?_)
    obtain ⟨h0, h1⟩ := hb hb'
    have e : WR (idxF (idP i) 0 xs + 1) = idxF (idP i) 0 xs + 1 := WR_in (by omega)
    rw [e]
    refine Wp.ok (by simp only [slOk, decide_eq_true_eq]; omega) (Wp.ok (by simp only [slOk, decide_eq_true_eq]; omega) (Wp.ok (apOk_in (by simp; omega) (by simp; omega)) (Wp.ok (apOk_in (by simp; omega) (by simp; omega)) (Wp.some ?_))))
    refine h.sub ?_
    rw [List.nil_append]
    have : (idxF (idP i) 0 xs + 1).toNat = (idxF (idP i) 0 xs).toNat + 1 := by omega
    rw [this]
    conv => rhs; rw [← List.take_append_drop (idxF (idP i) 0 xs).toNat xs]
    refine List.Sublist.append (List.Sublist.refl _) ?_
    rw [← List.drop_drop]
    exact List.drop_sublist _ _
theorem wDraw21 {c : Tl1Cur} (h : curOK c) : Wp (sl21Draw c) (fun r => curOK r.2 ∧ RegOK r.1) := by
  unfold sl21Draw
  refine Wp.call (wBelow h (by omega)) fun r1 h1 => ?_
  refine Wp.call (P := fun x => curOK ⟨x.1, x.2.1, x.2.2.1⟩ ∧ RegOK x.2.2.2) ?_ fun x hx => Wp.some hx
  refine Wp.iterF (fun x => (0 ≤ x.1 ∧ x.1 ≤ 7) ∧ curOK ⟨x.2.1, x.2.2.1, x.2.2.2.1⟩ ∧ RegOK x.2.2.2.2) (fun x => x.1.toNat) ⟨⟨by simp only; omega, by simp only; omega⟩, h1.1, ⟨by simp, by simp, by simp, .nil, by simp, .nil⟩⟩ (by simp only; omega) ?_
  rintro ⟨v4, v5, v6, v7, v8⟩ ⟨⟨i0, i1⟩, i2, i3⟩
  simp only at i0 i1 i2 i3
  simp only [sl21Draw_L1]
  refine Wp.cond (fun hb => ?_) (fun hb => Wp.some ⟨i2, i3⟩)
  have hb := ltBt hb
  have hl := i3.len
  refine Wp.call (wOne21 i2) fun r21 h21 => Wp.eq (sRegister_eq (by omega) _) ?_
  have h22 := regOK_U i3 r21.1
  refine Wp.call (wOnce h21 (by omega)) fun r23 h23 => ?_
  refine Wp.call (P := fun x => curOK ⟨x.1, x.2.1, x.2.2.1⟩ ∧ RegOK x.2.2.2) ?_ fun x hx => Wp.some ⟨⟨⟨?_, ?_⟩, hx.1, hx.2⟩, ?_⟩
  · exact Wp.cond (fun _ => Wp.call (wWho h23) fun r28 h28 => Wp.call (wBelow h28 (by omega)) fun r29 h29 => Wp.call (wDeregister h22 _ _) fun r30 h30 => Wp.some ⟨h29.1, h30⟩) (fun _ => Wp.some ⟨h23, h22⟩)
  all_goals simp only [WR_in (show -9223372036854775808 ≤ v4 - 1 ∧ v4 - 1 ≤ 9223372036854775807 by omega)]
  all_goals omega
theorem wDrawReg {xs : List Int} (hl : xs.length ≤ 1048576) (hu : ∀ x ∈ xs, okU8 x) : Wp (sDrawReg xs) RegOK := by
  obtain ⟨c, e, hc, _⟩ := new_ok hl hu
  unfold sDrawReg
  exact Wp.eq e (Wp.call (wDraw21 hc) fun r2 h2 => Wp.some h2.2)
/-! what is counted -/
theorem forL_filter {α β : Type} (p : α → Bool) (f : α → β) (b : Nat) (hb : b ≤ 64) : ∀ (xs : List α) (acc : List β), acc.length + xs.length ≤ 1048576 →
    forL (fun acc x => bif p x then (bif apOk b (acc ++ [f x]).length then some (Step.next (ρ := List β) (acc ++ [f x])) else none) else some (.next acc)) some xs acc = some (acc ++ (xs.filter p).map f)
  | [], acc, _ => by simp [forL]
  | x :: xs, acc, h => by
    simp only [List.length_cons] at h
    rw [forL]
    cases hp : p x with
    | false => simp only [cond_false]; rw [forL_filter p f b hb xs acc (by omega)]; simp [hp]
    | true =>
      have ha : apOk b (acc ++ [f x]).length = true := apOk_in (by simp; exact Nat.le_trans (Nat.mul_le_mul_left _ hb) (by omega)) (by simp; omega)
      simp only [ha, cond_true]
      rw [forL_filter p f b hb xs (acc ++ [f x]) (by simp; omega)]
      simp [hp]
def visP (k : Int) (x : Reg) : Bool := bif eqB x.ID.Network k then !eqB x.Network k else false
theorem visitors_eq {xs : List Reg} (hl : xs.length ≤ 1000) (k : Int) : iVisitorsOf xs k = some ((xs.filter (visP k)).map (·.ID)) := by
  have := iter_for (step := iVisitorsOf_L1 xs k) xs (fun j (s : List TSubscriberID) => ((j : Int), s)) (fun acc x => bif visP k x then (bif apOk 16 (acc ++ [x.ID]).length then some (Step.next (ρ := List TSubscriberID) (acc ++ [x.ID])) else none) else some (.next acc)) some (by omega)
    (fun j x s hx hj => by
      simp only [iVisitorsOf_L1, ltB_lt hj, ix_nat, hx, WR_succ (show j < 9223372036854775807 by omega), visP, Option.bind_some, cond_true]
      cases eqB x.ID.Network k <;> cases eqB x.Network k <;> cases apOk 16 (s ++ [x.ID]).length <;> rfl) (fun s => by simp [iVisitorsOf_L1]) []
  unfold iVisitorsOf
  rw [show iter (iVisitorsOf_L1 xs k) FU (0, []) = _ from this, forL_filter (visP k) (·.ID) 16 (by omega) xs [] (by simp; omega)]
  rfl
theorem tempIDs_eq {xs : List Reg} (hl : xs.length ≤ 1000) (k : Int) : iTempIDsIn xs k = some ((xs.filter (fun x => eqB x.Network k)).map (·.TempID)) := by
  rw [iTempIDsIn_eq (by omega)]
  have := forL_filter (fun x : Reg => eqB x.Network k) (·.TempID) 16 (by omega) xs [] (by simp; omega)
  have this' : forL (tempsB k) some xs [] = some ([] ++ (xs.filter (fun x => eqB x.Network k)).map (·.TempID)) := this
  rw [this', List.nil_append]
/-- Counts over the first networks. -/
def sumTo (f : Int → Nat) : Nat → Nat
  | 0 => 0
  | k + 1 => sumTo f k + f (k : Int)
theorem four {n : Int} (h : 0 ≤ n ∧ n ≤ 3) : n = 0 ∨ n = 1 ∨ n = 2 ∨ n = 3 := by omega
theorem nets_sum : ∀ {xs : List Reg}, (∀ x ∈ xs, 0 ≤ x.Network ∧ x.Network ≤ 3) → sumTo (fun k => (xs.filter (fun x => eqB x.Network k)).length) 4 = xs.length
  | [], _ => rfl
  | x :: xs, h => by
    have ih := nets_sum (xs := xs) (fun y hy => h y (.tail _ hy))
    simp only [sumTo] at ih ⊢
    have e : ∀ a b : Int, eqB a b = decide (a = b) := fun a b => by simp [eqB]
    rcases four (h x (.head _)) with hx | hx | hx | hx <;> simp [List.filter_cons, hx, e] at ih ⊢ <;> omega
theorem home_sum : ∀ {xs : List Reg}, (∀ x ∈ xs, 0 ≤ x.ID.Network ∧ x.ID.Network ≤ 3) → sumTo (fun k => (xs.filter (visP k)).length) 4 + (xs.filter (fun x => eqB x.Network x.ID.Network)).length = xs.length
  | [], _ => rfl
  | x :: xs, h => by
    have ih := home_sum (xs := xs) (fun y hy => h y (.tail _ hy))
    simp only [sumTo] at ih ⊢
    have e : ∀ a b : Int, eqB a b = decide (a = b) := fun a b => by simp [eqB]
    by_cases hn : x.Network = x.ID.Network
    · rcases four (h x (.head _)) with hx | hx | hx | hx <;> simp [List.filter_cons, hn, hx, e, visP] at ih ⊢ <;> omega
    · rcases four (h x (.head _)) with hx | hx | hx | hx <;> rw [hx] at hn <;> simp [List.filter_cons, hn, hx, e, visP] at ih ⊢ <;> omega
theorem find_self {xs : List Reg} (h : RegOK xs) {x : Reg} (hx : x ∈ xs) : ∃ j : Nat, idxF (idP x.ID) 0 xs = (j : Int) ∧ xs[j]? = some x := by
  rcases idx_cases (idP x.ID) xs 0 with ⟨_, h3⟩ | ⟨j, h3, y, h4, h5, _⟩
  · exfalso
    have := h3 x hx
    rw [idP_iff.2 rfl] at this
    cases this
  · refine ⟨j, by simpa using h3, ?_⟩
    have hid := idP_iff.1 h5
    obtain ⟨i, hi⟩ := List.getElem?_of_mem hx
    obtain ⟨hj, ej⟩ := List.getElem?_eq_some_iff.1 h4
    obtain ⟨hi', ei⟩ := List.getElem?_eq_some_iff.1 hi
    have hp := List.pairwise_iff_getElem.1 h.dis
    rcases Nat.lt_trichotomy i j with hij | hij | hij
    · exact absurd (by rw [ei, ej]; exact hid.symm) (hp i j hi' hj hij)
    · subst hij; rw [ei] at ej; rw [h4, ← ej]
    · exact absurd (by rw [ei, ej]; exact hid) (hp j i hj hi' hij)
theorem lFnVisitors_ok (xs : List Int) (hp : preL okU8 xs) : lFnVisitors xs = some true := by
  unfold lFnVisitors
  simp only [lbig, Option.bind_some]
  cases hb : ltB 1048576 ((xs.length : Nat) : Int)
  case true => rfl
  have hl : xs.length ≤ 1048576 := by have := ltBf hb; omega
  obtain ⟨l, e, hr⟩ := (wDrawReg hl hp.2).ex
  have h8 := hr.len
  simp only [cond_false, e, Option.bind_some]
  let cV : Int → Nat := fun k => (l.filter (visP k)).length
  let cT : Int → Nat := fun k => (l.filter (fun x => eqB x.Network k)).length
  have cVle : ∀ k, cV k ≤ 8 := fun k => Nat.le_trans (List.length_filter_le _ _) h8
  have cTle : ∀ k, cT k ≤ 8 := fun k => Nat.le_trans (List.length_filter_le _ _) h8
  have sV : ∀ k, sumTo cV k ≤ 8 * k := fun k => by induction k with
    | zero => exact Nat.le_refl _
    | succ k ih => have := cVle k; simp only [sumTo]; omega
  have sT : ∀ k, sumTo cT k ≤ 8 * k := fun k => by induction k with
    | zero => exact Nat.le_refl _
    | succ k ih => have := cTle k; simp only [sumTo]; omega
  have goal : Wp (iter (lFnVisitors_L1 l) FU (0, 0, 0)) (fun r => r = true) := by
    refine Wp.iterF (fun x => ∃ k : Nat, k ≤ 4 ∧ x = ((sumTo cV k : Int), (sumTo cT k : Int), (k : Int))) (fun x => (4 - x.2.2).toNat) ⟨0, by omega, rfl⟩ (by simp) ?_
    rintro x ⟨k, hk, rfl⟩
    have hsV := sV k
    have hsT := sT k
    simp only [lFnVisitors_L1]
    refine Wp.cond (fun hb => ?_) (fun hb => ?_)
    · have hb := ltBt hb
      refine Wp.eq (visitors_eq (by omega) _) ?_
      have hlen : ((l.filter (visP (k : Int))).map (·.ID)).length = cV k := by simp [cV]
      have hcV := cVle k
      have hcT := cTle k
      refine Wp.iterF (fun i => 0 ≤ i ∧ i ≤ (cV k : Int)) (fun i => ((cV k : Int) - i).toNat) ⟨by omega, by omega⟩ (by omega) ?_
      rintro i ⟨i0, i1⟩
      simp only [lFnVisitors_L2, hlen]
      refine Wp.cond (fun hb2 => ?_) (fun hb2 => ?_)
      · have hb2 := ltBt hb2
        have hx : ∀ y ∈ (l.filter (visP (k : Int))).map (·.ID), ∃ x ∈ l, visP (k : Int) x = true ∧ y = x.ID := fun y hy => by
          obtain ⟨x, hx, rfl⟩ := List.mem_map.1 hy
          obtain ⟨h1, h2⟩ := List.mem_filter.1 hx
          exact ⟨x, h1, h2, rfl⟩
        refine Wp.ix i0 (by rw [hlen]; exact hb2) fun y hy hyi => ?_
        refine Wp.eq (sFindRegistration_eq (by omega) _) ?_
        refine Wp.ix i0 (by rw [hlen]; exact hb2) fun y' hy' hyi' => ?_
        rw [hyi] at hyi'; cases hyi'
        obtain ⟨x, hxl, hxv, rfl⟩ := hx y hy
        obtain ⟨j, hj, hjx⟩ := find_self hr hxl
        have hv : eqB x.ID.Network (k : Int) = true ∧ eqB x.Network (k : Int) = false := by
          simp only [visP] at hxv
          cases h1 : eqB x.ID.Network (k : Int) <;> rw [h1] at hxv
          · cases hxv
          · exact ⟨rfl, by simpa using hxv⟩
        rw [hj]
        simp only [hv.1, Bool.not_true, cond_false, show ltB (j : Int) 0 = false from lt0_f (by omega), ix_nat, hjx, Option.bind_some, hv.2]
        refine Wp.some ⟨⟨?_, ?_⟩, ?_⟩
        all_goals simp only [WR_in (show -9223372036854775808 ≤ i + 1 ∧ i + 1 ≤ 9223372036854775807 by omega)]
        all_goals omega
      · refine Wp.dn (Wp.eq (tempIDs_eq (by omega) _) (Wp.some ?_))
        have hlT : ((l.filter (fun x => eqB x.Network (k : Int))).map (·.TempID)).length = cT k := by simp [cT]
        rw [hlT]
        refine ⟨⟨k + 1, by omega, ?_⟩, ?_⟩
        · rw [WR_in (by omega), WR_in (by omega), WR_in (by omega)]
          simp only [sumTo, Int.natCast_add]
          rfl
        · simp only [WR_in (show -9223372036854775808 ≤ (k : Int) + 1 ∧ (k : Int) + 1 ≤ 9223372036854775807 by omega)]
          omega
    · have hb := ltBf hb
      have hk4 : k = 4 := by omega
      subst hk4
      refine Wp.dn ?_
      refine Wp.call (P := fun v => v = ((l.filter (fun x => eqB x.Network x.ID.Network)).length : Int)) ?_ fun v hv => ?_
      · refine Wp.iterF (fun x => ∃ j : Nat, j ≤ l.length ∧ x = ((((l.take j).filter (fun x => eqB x.Network x.ID.Network)).length : Int), (j : Int))) (fun x => ((l.length : Int) - x.2).toNat) ⟨0, by omega, by simp⟩ (by omega) ?_
        rintro x ⟨j, hj, rfl⟩
        simp only [lFnVisitors_L3]
        refine Wp.cond (fun hb3 => ?_) (fun hb3 => ?_)
        · have hb3 := ltBt hb3
          have hjl : j < l.length := by omega
          have hx : l[j]? = some l[j] := List.getElem?_eq_getElem hjl
          have hle : ((l.take j).filter (fun x => eqB x.Network x.ID.Network)).length ≤ 8 := Nat.le_trans (List.length_filter_le _ _) (by simp; omega)
          simp only [ix_nat, hx, Option.bind_some]
          have ht : l.take (j + 1) = l.take j ++ [l[j]] := by rw [List.take_add_one, hx]; rfl
          cases hq : eqB l[j].Network l[j].ID.Network with
          | true =>
            refine Wp.some ⟨⟨j + 1, by omega, ?_⟩, ?_⟩
            · have hf : ((l.take (j + 1)).filter (fun x => eqB x.Network x.ID.Network)).length = ((l.take j).filter (fun x => eqB x.Network x.ID.Network)).length + 1 := by rw [ht, List.filter_append, List.length_append]; simp [hq]
              rw [hf, WR_in (by omega), WR_in (by omega)]; simp
            · simp only [WR_in (show -9223372036854775808 ≤ (j : Int) + 1 ∧ (j : Int) + 1 ≤ 9223372036854775807 by omega)]; omega
          | false =>
            refine Wp.some ⟨⟨j + 1, by omega, ?_⟩, ?_⟩
            · have hf : ((l.take (j + 1)).filter (fun x => eqB x.Network x.ID.Network)).length = ((l.take j).filter (fun x => eqB x.Network x.ID.Network)).length := by rw [ht, List.filter_append, List.length_append]; simp [hq]
              rw [hf, WR_in (by omega)]; simp
            · simp only [WR_in (show -9223372036854775808 ≤ (j : Int) + 1 ∧ (j : Int) + 1 ≤ 9223372036854775807 by omega)]; omega
        · have hb3 := ltBf hb3
          have : j = l.length := by omega
          subst this
          refine Wp.some ?_
          simp only [List.take_length]
      · have hV := home_sum hr.idn
        have hT := nets_sum hr.net
        have hVs : sumTo cV 4 + (l.filter (fun x => eqB x.Network x.ID.Network)).length = l.length := hV
        have hTs : sumTo cT 4 = l.length := hT
        have e1 : WR ((sumTo cV 4 : Nat) + v : Int) = ((l.length : Nat) : Int) := by rw [WR_in (by omega)]; omega
        rw [e1, hTs]
        simp only [eqB_refl, cond_true, iRoamingCodeName, Option.bind_some]
        rw [show eqB (-1) 0 = false from by decide +kernel, show eqB (-1) 1 = false from by decide +kernel, show eqB (-1) 2 = false from by decide +kernel, show eqB (-1) 3 = false from by decide +kernel, show eqB (-1) 4 = false from by decide +kernel, show eqB (-1) 5 = false from by decide +kernel]
        have s0 : ∀ s : ByteArray, strB s s = true := fun s => strB_t.2 rfl
        simp only [cond_false, s0, cond_true, Option.bind_some]
        exact Wp.some rfl
  obtain ⟨r, h1, h2⟩ := goal.ex
  rw [h1, h2]
end Go.AM
set_option linter.unusedVariables false
set_option linter.unusedSimpArgs false
namespace Go.AM
open Go.Proofs
attribute [local simp] ltB_self eqB_refl ix_nat
theorem vRegs_of {xs : List Reg} (h : RegOK xs) : vRegs xs = true := by
  have hl := h.len
  simp only [vRegs, Bool.and_eq_true]
  refine ⟨leB_t.2 (by omega), ?_⟩
  rw [List.all_eq_true]
  intro y hy
  obtain ⟨k, hk⟩ := List.getElem?_of_mem hy
  have hk2 : xs[y.2]? = some y.1 := by
    rw [List.getElem?_zipIdx] at hk
    cases hx : xs[k]? with
    | none => rw [hx] at hk; cases hk
    | some x => rw [hx] at hk; simp at hk; rw [← hk]; simpa using hx
  obtain ⟨hj, ej⟩ := List.getElem?_eq_some_iff.1 hk2
  obtain ⟨o1, o2, o3, o4⟩ := h.one y.1 (by rw [← ej]; exact List.getElem_mem hj)
  simp only [vOne, o1, o2, o3, o4, Bool.true_and, Bool.and_eq_true, Bool.not_eq_true']
  have at_ : ∀ z ∈ xs.take y.2, ∃ i, ∃ hi : i < xs.length, i < y.2 ∧ z = xs[i] := fun z hz => by
    obtain ⟨i, hi, e⟩ := List.mem_iff_getElem.1 hz
    have hi' := hi
    rw [List.length_take] at hi'
    exact ⟨i, by omega, by omega, by rw [← e]; simp⟩
  constructor
  · rw [List.any_eq_false]
    intro z hz he
    obtain ⟨i, hi, hij, rfl⟩ := at_ z hz
    exact List.pairwise_iff_getElem.1 h.dis i y.2 hi hj hij (by rw [ej]; exact idP_iff.1 he)
  · rw [List.any_eq_false]
    intro z hz he
    obtain ⟨i, hi, hij, rfl⟩ := at_ z hz
    exact List.pairwise_iff_getElem.1 h.dit i y.2 hi hj hij (by rw [ej]; exact tP_iff.1 he)
theorem same_eq {xs : List Reg} (hl : xs.length ≤ 1000) : lsameRegistrations xs xs = some true := by
  have := any_rule (L := lsameRegistrations_L1 xs xs) xs (fun _ => false) (by omega)
  have goal : Wp (iter (lsameRegistrations_L1 xs xs) FU 0) (fun r => r = true) := by
    refine Wp.iterF (fun i => 0 ≤ i ∧ i ≤ (xs.length : Int)) (fun i => ((xs.length : Int) - i).toNat) ⟨by omega, by omega⟩ (by omega) ?_
    rintro i ⟨i0, i1⟩
    simp only [lsameRegistrations_L1]
    refine Wp.cond (fun hb => ?_) (fun _ => Wp.dn (Wp.some rfl))
    have hb := ltBt hb
    refine Wp.ix i0 hb fun x hx hxi => Wp.ix i0 hb fun y hy hyi => ?_
    rw [hxi] at hyi; cases hyi
    simp only [eqB_refl, Bool.true_and, Bool.not_true, cond_false]
    refine Wp.some ⟨⟨?_, ?_⟩, ?_⟩
    all_goals simp only [WR_in (show -9223372036854775808 ≤ i + 1 ∧ i + 1 ≤ 9223372036854775807 by omega)]
    all_goals omega
  obtain ⟨r, h1, h2⟩ := goal.ex
  simp only [lsameRegistrations, eqB_refl, Bool.not_true, cond_false]
  rw [h1, h2]
theorem check_in {s : TSubscription} {xs : List TRoamingAgreement} {i : TSubscriberID} {n : Int} (h : iCheckRoaming s xs i n = some 0) : inR n 0 3 = true ∧ vSub i = true := by
  simp only [iCheckRoaming, iInRange_eq, iIsValidSubscriberID_eq, Option.bind_some] at h
  cases h1 : inR n 0 3
  · rw [h1] at h; simp at h
  · cases h2 : vSub i
    · rw [h1, h2] at h; simp at h
    · exact ⟨rfl, rfl⟩
/-- The register with the entry in. -/
def putU (xs : List Reg) (r : Reg) : List Reg := bif leB 0 (idxF (idP r.ID) 0 xs) then xs.set (idxF (idP r.ID) 0 xs).toNat r else xs ++ [r]
theorem put_cases {xs : List Reg} (h : RegOK xs) (r : Reg) : (∃ (j : Nat) (x : Reg), idxF (idP r.ID) 0 xs = (j : Int) ∧ xs[j]? = some x ∧ x.ID = r.ID ∧ putU xs r = xs.set j r) ∨ (idxF (idP r.ID) 0 xs = -1 ∧ (∀ x ∈ xs, x.ID ≠ r.ID) ∧ putU xs r = xs ++ [r]) := by
  rcases idx_cases (idP r.ID) xs 0 with ⟨h3, h4⟩ | ⟨j, h3, x, h4, h5, _⟩
  · right
    have h3' : idxF (idP r.ID) 0 xs = -1 := h3
    refine ⟨h3', fun x hx e => ?_, ?_⟩
    · have := h4 x hx; rw [idP_iff.2 e] at this; cases this
    · unfold putU; rw [h3', show leB 0 (-1) = false from leB_f.2 (by omega)]; rfl
  · left
    have h3' : idxF (idP r.ID) 0 xs = (j : Int) := by simpa using h3
    refine ⟨j, x, h3', h4, idP_iff.1 h5, ?_⟩
    unfold putU; rw [h3', show leB 0 (j : Int) = true from leB_t.2 (by omega)]; rfl
theorem regU_put (xs : List Reg) (r : Reg) : regU xs r = bif vRegs (putU xs r) then (putU xs r, (bif leB 0 (idxF (idP r.ID) 0 xs) then (match xs[(idxF (idP r.ID) 0 xs).toNat]? with | some x => x.Network | none => -1) else -1), true) else (xs, -1, false) := rfl
theorem put_mem {xs : List Reg} (h : RegOK xs) (r : Reg) : r ∈ putU xs r := by
  rcases put_cases h r with ⟨j, x, _, h4, _, e⟩ | ⟨_, _, e⟩
  · rw [e]
    obtain ⟨hj, _⟩ := List.getElem?_eq_some_iff.1 h4
    exact List.mem_iff_getElem.2 ⟨j, by simpa using hj, by simp⟩
  · rw [e]; simp
theorem put_ok {xs : List Reg} (h : RegOK xs) (hl : xs.length ≤ 7) (r : Reg) (h1 : vSub r.ID = true ∧ inR r.Network 0 3 = true ∧ inR r.Area 0 2 = true ∧ vTmp r.TempID = true) (h2 : ∀ x ∈ xs, ¬ (x.Network = r.Network ∧ x.TempID = r.TempID)) : RegOK (putU xs r) := by
  have hr1 : 0 ≤ r.ID.Network ∧ r.ID.Network ≤ 3 := by
    have := h1.1
    simp only [vSub, Bool.and_eq_true] at this
    exact inR_iff.1 this.1
  have hr2 := inR_iff.1 h1.2.1
  rcases put_cases h r with ⟨j, x, _, h4, h5, e⟩ | ⟨_, h5, e⟩
  · rw [e]
    obtain ⟨hj, ej⟩ := List.getElem?_eq_some_iff.1 h4
    have hm : ∀ y ∈ xs.set j r, y = r ∨ y ∈ xs := fun y hy => (List.mem_or_eq_of_mem_set hy).symm
    have hp := List.pairwise_iff_getElem.1 h.dis
    have hq := List.pairwise_iff_getElem.1 h.dit
    refine ⟨by simp; omega, fun y hy => (hm y hy).elim (fun e => e ▸ hr1) (h.idn y), fun y hy => (hm y hy).elim (fun e => e ▸ hr2) (h.net y), ?_, fun y hy => (hm y hy).elim (fun e => e ▸ h1) (h.one y), ?_⟩
    · refine List.pairwise_iff_getElem.2 fun a b ha hb hab he => ?_
      simp only [List.length_set] at ha hb
      rw [List.getElem_set, List.getElem_set] at he
      split at he <;> split at he
      · omega
      · rename_i ea _; subst ea; rw [← h5, ← ej] at he; exact hp _ _ ha hb hab he
      · rename_i _ eb; subst eb; rw [← h5, ← ej] at he; exact hp _ _ ha hb hab he
      · exact hp _ _ ha hb hab he
    · refine List.pairwise_iff_getElem.2 fun a b ha hb hab he => ?_
      simp only [List.length_set] at ha hb
      rw [List.getElem_set, List.getElem_set] at he
      split at he <;> split at he
      · omega
      · exact h2 _ (List.getElem_mem hb) ⟨he.1.symm, he.2.symm⟩
      · exact h2 _ (List.getElem_mem ha) he
      · exact hq _ _ ha hb hab he
  · rw [e]
    have hm : ∀ y ∈ xs ++ [r], y = r ∨ y ∈ xs := fun y hy => by
      rcases List.mem_append.1 hy with hy | hy
      · exact .inr hy
      · simp at hy; exact .inl hy
    refine ⟨by simp; omega, fun y hy => (hm y hy).elim (fun e => e ▸ hr1) (h.idn y), fun y hy => (hm y hy).elim (fun e => e ▸ hr2) (h.net y), ?_, fun y hy => (hm y hy).elim (fun e => e ▸ h1) (h.one y), ?_⟩
    · exact List.pairwise_append.2 ⟨h.dis, by simp, fun a ha b hb => by simp at hb; subst hb; exact h5 a ha⟩
    · exact List.pairwise_append.2 ⟨h.dit, by simp, fun a ha b hb => by simp at hb; subst hb; exact h2 a ha⟩
theorem resolve_eq {xs : List Reg} (h : RegOK xs) {r : Reg} (hr : r ∈ xs) : iResolveTempID xs r.Network r.TempID = some (r.ID, true) := by
  have hl := h.len
  have goal : Wp (iter (iResolveTempID_L1 xs r.Network r.TempID) FU 0) (fun q => q = (r.ID, true)) := by
    obtain ⟨j, hj⟩ := List.getElem?_of_mem hr
    obtain ⟨hjl, ej⟩ := List.getElem?_eq_some_iff.1 hj
    refine Wp.iterF (fun i => 0 ≤ i ∧ i ≤ (j : Int)) (fun i => ((xs.length : Int) - i).toNat) ⟨by omega, by omega⟩ (by omega) ?_
    rintro i ⟨i0, i1⟩
    simp only [iResolveTempID_L1]
    refine Wp.cond (fun hb => ?_) (fun hb => by have := ltBf hb; omega)
    have hb := ltBt hb
    refine Wp.ix i0 hb fun x hx hxi => ?_
    have hcond : (bif eqB x.Network r.Network then some (eqB x.TempID.Pool r.TempID.Pool && (eqB x.TempID.Number r.TempID.Number && true)) else some false) = some (tP r.Network r.TempID x) := by
      simp only [tP]; cases eqB x.Network r.Network <;> rfl
    rw [hcond]
    simp only [Option.bind_some]
    refine Wp.cond (fun hp => Wp.dn (Wp.some ?_)) (fun hp => Wp.some ?_)
    · have hp := tP_iff.1 hp
      obtain ⟨hil, ei⟩ := List.getElem?_eq_some_iff.1 hxi
      by_cases hij : i.toNat = j
      · subst hij; rw [ei] at ej; rw [ej]
      · exfalso
        refine List.pairwise_iff_getElem.1 h.dit i.toNat j hil hjl (by omega) ?_
        rw [ei, ej]; exact hp
    · have hne : i.toNat ≠ j := fun e => by
        rw [e, hj] at hxi; cases hxi
        rw [tP_iff.2 ⟨rfl, rfl⟩] at hp; cases hp
      refine ⟨⟨?_, ?_⟩, ?_⟩
      all_goals simp only [WR_in (show -9223372036854775808 ≤ i + 1 ∧ i + 1 ≤ 9223372036854775807 by omega)]
      all_goals omega
  obtain ⟨q, h1, h2⟩ := goal.ex
  rw [iResolveTempID, h1, h2]
theorem locate_eq {xs : List Reg} (h : RegOK xs) {r : Reg} (hr : r ∈ xs) : iLocateArea xs r.Network r.ID = some (r.Area, true) := by
  have hl := h.len
  obtain ⟨j, hj, hx⟩ := find_self h hr
  have hm : iMayLocate xs r.Network r.ID = some true := by
    unfold iMayLocate
    rw [iFindRegistration_eq (by omega), hj]
    cases eqB r.Network r.ID.Network with
    | true => rfl
    | false => simp [show leB 0 (j : Int) = true from leB_t.2 (by omega), hx]
  unfold iLocateArea
  rw [iFindRegistration_eq (by omega), hj]
  simp [show ltB (j : Int) 0 = false from lt0_f (by omega), hm, hx]
theorem cand_ok (k : Int) {p : Int} (hp : inR p 0 3 = true) (i : TSubscriberID) (a : Int) : vTmp (cand k p i a) = true := by
  have h1 := Int.emod_nonneg (khash k [i.Network, i.Number, a]) (show (10000 : Int) ≠ 0 by omega)
  have h2 := Int.emod_lt_of_pos (khash k [i.Network, i.Number, a]) (show (0 : Int) < 10000 by omega)
  simp only [vTmp, cand, hp, Bool.true_and]
  exact inR_iff.2 ⟨h1, by omega⟩
theorem wDrawRoaming {xs : List Int} (hl : xs.length ≤ 1048576) (hu : ∀ x ∈ xs, okU8 x) : Wp (sDrawRoaming xs) (fun r => RegOK r.1 ∧ r.2.1.RoamingNetworks.length ≤ 5 ∧ r.2.2.1.length ≤ 6) := by
  obtain ⟨c, e, hc, _⟩ := new_ok hl hu
  unfold sDrawRoaming
  exact Wp.eq e (Wp.call (wDraw21 hc) fun r2 h2 => Wp.call (wPlan h2.1) fun r3 h3 => Wp.call (wAgreements h3.1) fun r4 h4 => Wp.call (wWho h4.1) fun r5 h5 => Wp.some ⟨h2.2, Nat.le_trans h3.2 (by omega), h4.2⟩)
theorem wAt {xs : List Int} (hl : xs.length ≤ 1048576) (hu : ∀ x ∈ xs, okU8 x) {i : Int} (h0 : 0 ≤ i) (h1 : i ≤ 1000) : Wp (lat xs i) (fun r => 0 ≤ r) := by
  unfold lat
  refine Wp.cond (fun hb => Wp.ix h0 (ltBt hb) fun x hx _ => Wp.some ?_) (fun _ => Wp.some ?_)
  · have := hu x hx
    simp only [okU8] at this
    rw [WR_in (by omega)]; exact this.1
  · rw [WR_in (n := i * 31) (by omega), WR_in (n := ((xs.length : Nat) : Int) * 7) (by omega), WR_in (by omega)]
    exact (tmod_in (by omega) (by omega)).1
theorem lFnRoamingRegistration_ok (xs : List Int) (hp : preL okU8 xs) : lFnRoamingRegistration xs = some true := by
  unfold lFnRoamingRegistration
  simp only [lbig, Option.bind_some]
  cases hb : ltB 1048576 ((xs.length : Nat) : Int)
  case true => rfl
  have hl : xs.length ≤ 1048576 := by have := ltBf hb; omega
  obtain ⟨⟨rs, s, ds, i⟩, e, hr, h1, h2⟩ := (wDrawRoaming hl hp.2).ex
  obtain ⟨q0, e0, p0⟩ := (wAt hl hp.2 (show (0 : Int) ≤ 0 by omega) (by omega)).ex
  obtain ⟨q1, e1, p1⟩ := (wAt hl hp.2 (show (0 : Int) ≤ 1 by omega) (by omega)).ex
  obtain ⟨q2, e2, p2⟩ := (wAt hl hp.2 (show (0 : Int) ≤ 2 by omega) (by omega)).ex
  simp only at hr h1 h2
  have hn := tmod_in p0 (show (0 : Int) < 4 by omega)
  have ha := tmod_in p1 (show (0 : Int) < 3 by omega)
  simp only [cond_false, e, e0, e1, e2, Option.bind_some]
  generalize Int.tmod q0 4 = n at hn ⊢
  generalize Int.tmod q1 3 = ar at ha ⊢
  generalize WR (100 + Int.tmod q2 3) = k
  have hlen := hr.len
  have h1' : s.RoamingNetworks.length ≤ 1048576 := by omega
  have h2' : ds.length ≤ 1048576 := by omega
  obtain ⟨c, c1, c2⟩ := check_eq h1' h2' i n
  have hT : ∀ n, iTempIDsIn rs n = some ((rs.filter (fun x => eqB x.Network n)).map (·.TempID)) := fun n => tempIDs_eq (by omega) n
  have hTl : ((rs.filter (fun x => eqB x.Network n)).map (·.TempID)).length ≤ 1048576 := by
    exact Nat.le_trans (by rw [List.length_map]; exact List.length_filter_le _ _) (show rs.length ≤ 1048576 by omega)
  obtain ⟨q, q1, q2⟩ := alloc_eq hTl k n i
  simp only [iRegisterRoaming, irefuseRoaming, c1, c2, hT, q1, iRegister_eq (show rs.length ≤ 1048576 by omega), icopy_eq (show rs.length ≤ 1048576 by omega), Option.bind_some]
  cases hc : eqB c 0
  · simp only [Bool.not_false, cond_true, Option.bind_some, eqB_refl, same_eq (show rs.length ≤ 1000 by omega)]
    rfl
  have hc := eqBt hc
  subst hc
  obtain ⟨hin, hv⟩ := check_in c1
  obtain ⟨t, b⟩ := q
  simp only [Bool.not_true, cond_false]
  cases b
  · simp only [Bool.not_false, cond_true, Option.bind_some, same_eq (show rs.length ≤ 1000 by omega), eqB_refl]
    rw [show eqB 4 0 = false from by decide +kernel]
    simp only [Bool.not_false, cond_true, Option.bind_some]
    cases leB 8 ((rs.length : Nat) : Int) <;> rfl
  obtain ⟨a, ht, hta⟩ := q2 rfl
  simp only at ht hta
  simp only [Bool.not_true, cond_false]
  have hent : vSub i = true ∧ inR n 0 3 = true ∧ inR ar 0 2 = true ∧ vTmp t = true := ⟨hv, hin, inR_iff.2 ⟨ha.1, by omega⟩, by rw [ht]; exact cand_ok k hin i a⟩
  have hfree : ∀ x ∈ rs, ¬ (x.Network = n ∧ x.TempID = t) := by
    rintro x hx ⟨e1, e2⟩
    rw [List.any_eq_false] at hta
    refine hta t (List.mem_map.2 ⟨x, List.mem_filter.2 ⟨hx, by rw [e1]; simp⟩, e2⟩) ?_
    simp [tidP]
  rw [regU_put]
  cases hok : vRegs (putU rs (⟨i, n, ar, t⟩ : Reg))
  · -- the register is full
    have h8 : 8 ≤ rs.length := by
      rcases Nat.lt_or_ge rs.length 8 with h | h
      · have := vRegs_of (put_ok hr (by omega) (⟨i, n, ar, t⟩ : Reg) hent hfree)
        rw [hok] at this; cases this
      · exact h
    simp only [cond_false, Bool.not_false, cond_true, Option.bind_some, same_eq (show rs.length ≤ 1000 by omega), eqB_refl]
    rw [show eqB 5 0 = false from by decide +kernel, show eqB 5 4 = false from by decide +kernel, show leB 8 ((rs.length : Nat) : Int) = true from leB_t.2 (by omega)]
    rfl
  have hnew := regOK_of hok
  have hmem := put_mem hr (⟨i, n, ar, t⟩ : Reg)
  have hnl := hnew.len
  have hres := resolve_eq hnew hmem
  have hloc := locate_eq hnew hmem
  simp only at hres hloc
  have hti : iTempIDsIn (putU rs (⟨i, n, ar, t⟩ : Reg)) n = some (((putU rs (⟨i, n, ar, t⟩ : Reg)).filter (fun x => eqB x.Network n)).map (·.TempID)) := tempIDs_eq (by omega) n
  have hcnt : leB 1 (((((putU rs (⟨i, n, ar, t⟩ : Reg)).filter (fun x => eqB x.Network n)).map (·.TempID)).length : Nat) : Int) = true := by
    have : 0 < (((putU rs (⟨i, n, ar, t⟩ : Reg)).filter (fun x => eqB x.Network n)).map (·.TempID)).length := by
      rw [List.length_map]
      exact List.length_pos_iff.2 (List.ne_nil_of_mem (List.mem_filter.2 ⟨hmem, by simp⟩))
    exact leB_t.2 (by omega)
  have hav := iAreValid_eq (xs := putU rs (⟨i, n, ar, t⟩ : Reg)) (by omega)
  have hpool : t.Pool = n := by rw [ht]; rfl
  simp only [cond_true, Bool.not_true, cond_false, Option.bind_some, sFindRegistration_eq (show rs.length ≤ 2000000 by omega)]
  -- what is cancelled
  rcases put_cases hr (⟨i, n, ar, t⟩ : Reg) with ⟨j, x, hj, hx, _, _⟩ | ⟨hj, _, _⟩
  · simp only at hj
    rw [hj]
    simp only [show leB 0 (j : Int) = true from leB_t.2 (by omega), cond_true, Int.toNat_natCast, hx, ix_nat, Option.bind_some]
    cases hxn : eqB x.Network n
    · simp only [Bool.not_false, cond_true, cond_false, Option.bind_some, eqB_refl, hres, hloc, hav, hok, hti, hcnt, hpool, Bool.true_and, Bool.and_true, Bool.not_true]
    · simp only [Bool.not_true, cond_true, cond_false, Option.bind_some, eqB_refl, hres, hloc, hav, hok, hti, hcnt, hpool, Bool.true_and, Bool.and_true]
  · simp only at hj
    rw [hj]
    have hneg : eqB (-1) n = false := eqB_f.2 (by omega)
    simp only [show leB 0 (-1) = false from leB_f.2 (by omega), cond_false, hneg, Option.bind_some, eqB_refl, Bool.not_true, cond_true, hres, hloc, hav, hok, hti, hcnt, hpool, Bool.true_and, Bool.and_true]
theorem fnVisitors_fn (x0 : D) (h0 : WT (.l [.i .u8]) x0) : Fn Try.prog 3 [.c x0] [rB true] := by
  obtain ⟨y0, rfl, l0, w0⟩ := h0.gl
  obtain ⟨a0, rfl, p0⟩ := WTL_map (f := eU8) (p := okU8) (fun x h => by obtain ⟨n, r, rfl, w, h⟩ := h.gi; obtain rfl := h.gn; exact ⟨n, rfl, wf_u8 w⟩) w0
  exact lFnVisitors_c (lFnVisitors_ok a0 ⟨by simpa using l0, p0⟩)
theorem fnRoamingAccess_fn (x0 : D) (h0 : WT (.l [.i .u8]) x0) : Fn Try.prog 4 [.c x0] [rB true] := by
  obtain ⟨y0, rfl, l0, w0⟩ := h0.gl
  obtain ⟨a0, rfl, p0⟩ := WTL_map (f := eU8) (p := okU8) (fun x h => by obtain ⟨n, r, rfl, w, h⟩ := h.gi; obtain rfl := h.gn; exact ⟨n, rfl, wf_u8 w⟩) w0
  exact lFnRoamingAccess_c (lFnRoamingAccess_ok a0 ⟨by simpa using l0, p0⟩)
theorem fnRoamingRegistration_fn (x0 : D) (h0 : WT (.l [.i .u8]) x0) : Fn Try.prog 5 [.c x0] [rB true] := by
  obtain ⟨y0, rfl, l0, w0⟩ := h0.gl
  obtain ⟨a0, rfl, p0⟩ := WTL_map (f := eU8) (p := okU8) (fun x h => by obtain ⟨n, r, rfl, w, h⟩ := h.gi; obtain rfl := h.gn; exact ⟨n, rfl, wf_u8 w⟩) w0
  exact lFnRoamingRegistration_c (lFnRoamingRegistration_ok a0 ⟨by simpa using l0, p0⟩)
end Go.AM
