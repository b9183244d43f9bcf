/-
  Own text: a part of the abstract machine for this seat (Nz). No statement is proved here.
-/
import Derived.Test.YtmlpfnppnjfcaaaGreatAmZb
import Derived.Test.YtmlpfnppnjfcaaaGreatAmQ
import Derived.Test.YtmlpfnppnjfcaaaGreatAmW
import Derived.Test.YtmlpfnppnjfcaaaGreatNal
set_option linter.unusedVariables false
namespace Go.AM

theorem FU_big : 9223372036854775808 ≤ FU := by unfold FU; omega
/-- Over the elements of a list, with a way out. -/
def forL {α σ ρ : Type} (body : σ → α → Option (Step σ ρ)) (fin : σ → Option ρ) : List α → σ → Option ρ
  | [], s => fin s
  | x :: xs, s => match body s x with
    | some (.next s') => forL body fin xs s'
    | some (.done r) => some r
    | none => none
def stepM {σ τ ρ : Type} (f : σ → τ) : Option (Step σ ρ) → Option (Step τ ρ)
  | some (.next s) => some (.next (f s))
  | some (.done r) => some (.done r)
  | none => none
@[simp] theorem stepM_next {σ τ ρ : Type} (f : σ → τ) (s : σ) : stepM (ρ := ρ) f (some (.next s)) = some (.next (f s)) := rfl
@[simp] theorem stepM_done {σ τ ρ : Type} (f : σ → τ) (r : ρ) : stepM f (some (.done r)) = some (.done r) := rfl
@[simp] theorem stepM_none {σ τ ρ : Type} (f : σ → τ) : stepM (ρ := ρ) f none = none := rfl
@[simp] theorem stepM_cond {σ τ ρ : Type} (f : σ → τ) (b : Bool) (x y : Option (Step σ ρ)) : stepM f (bif b then x else y) = bif b then stepM f x else stepM f y := by cases b <;> rfl
@[simp] theorem stepM_bind {α σ τ ρ : Type} (f : σ → τ) (o : Option α) (k : α → Option (Step σ ρ)) : stepM f (Option.bind o k) = Option.bind o (fun a => stepM f (k a)) := by cases o <;> rfl
@[simp] theorem dn_some {σ ρ : Type} (r : ρ) : dn (σ := σ) (some r) = some (.done r) := rfl
@[simp] theorem dn_none {σ ρ : Type} : dn (σ := σ) (ρ := ρ) none = none := rfl
theorem iter_for {α σ τ ρ : Type} {step : τ → Option (Step τ ρ)} (xs : List α) (mk : Nat → σ → τ) (body : σ → α → Option (Step σ ρ)) (fin : σ → Option ρ) (hl : xs.length ≤ 9223372036854775806)
    (hs : ∀ (k : Nat) (x : α) (s : σ), xs[k]? = some x → k < xs.length → step (mk k s) = stepM (mk (k + 1)) (body s x))
    (he : ∀ s, step (mk xs.length s) = dn (fin s)) (s0 : σ) : iter step FU (mk 0 s0) = forL body fin xs s0 := by
  have key : ∀ (m n : Nat) (s : σ) (k : Nat), m = xs.length - k → k ≤ xs.length → m < n → iter step n (mk k s) = forL body fin (xs.drop k) s := by
    intro m
    induction m with
    | zero =>
      intro n s k hm hk hn
      cases n with
      | zero => omega
      | succ n =>
        have : k = xs.length := by omega
        subst this
        rw [List.drop_length, forL, iter, he]
        cases fin s <;> rfl
    | succ m ih =>
      intro n s k hm hk hn
      cases n with
      | zero => omega
      | succ n =>
        have hlt : k < xs.length := by omega
        rw [List.drop_eq_getElem_cons hlt, forL, iter, hs k xs[k] s (List.getElem?_eq_getElem hlt) hlt]
        cases hb : body s xs[k] with
        | none => rfl
        | some o =>
          cases o with
          | done r => rfl
          | next s' => exact ih n s' (k + 1) (by omega) (by omega) (by omega)
  have := key (xs.length - 0) FU s0 0 rfl (Nat.zero_le _) (by have := FU_big; omega)
  simpa using this
theorem ix_nat {α : Type} (xs : List α) (k : Nat) : ix xs (k : Int) = xs[k]? := by simp [ix, leB]
theorem WR_in {n : Int} (h : -9223372036854775808 ≤ n ∧ n ≤ 9223372036854775807) : WR n = n := wrap_in h
theorem WR_succ {k : Nat} (h : k < 9223372036854775807) : WR ((k : Int) + 1) = ((k + 1 : Nat) : Int) := by rw [WR_in (by omega)]; omega
theorem ltB_nat {a b : Nat} : ltB (a : Int) (b : Int) = decide (a < b) := by simp [ltB]
theorem ltB_lt {a b : Nat} (h : a < b) : ltB (a : Int) (b : Int) = true := by simp [ltB, h]
theorem ltB_self (a : Int) : ltB a a = false := by simp [ltB]
theorem eqB_refl (a : Int) : eqB a a = true := by simp [eqB]
theorem set_at {α : Type} {xs : List α} {k : Nat} {x : α} (h : xs[k]? = some x) (y : α) : (xs.set k y)[k]? = some y := by
  have := (List.getElem?_eq_some_iff.1 h).1
  simp [this]
/-- A copy, element by element. -/
theorem iter_copy {α β : Type} {step : Int × List β → Option (Step (Int × List β) (List β))} (f : α → β) (z : β) (xs : List α) (hl : xs.length ≤ 9223372036854775806)
    (hs : ∀ (k : Nat) (x : α) (v : List β), xs[k]? = some x → v.length = xs.length → step ((k : Int), v) = some (.next (((k + 1 : Nat) : Int), v.set k (f x))))
    (he : ∀ v, step ((xs.length : Nat) , v) = some (.done v)) : iter step FU (0, List.replicate xs.length z) = some (xs.map f) := by
  have key : ∀ (m n : Nat) (k : Nat), m = xs.length - k → k ≤ xs.length → m < n → iter step n ((k : Int), (xs.take k).map f ++ List.replicate (xs.length - k) z) = some (xs.map f) := by
    intro m
    induction m with
    | zero =>
      intro n k hm hk hn
      cases n with
      | zero => omega
      | succ n =>
        have : k = xs.length := by omega
        subst this
        rw [iter, he]
        simp
    | succ m ih =>
      intro n k hm hk hn
      cases n with
      | zero => omega
      | succ n =>
        have hlt : k < xs.length := by omega
        rw [iter, hs k xs[k] _ (List.getElem?_eq_getElem hlt) (by simp; omega)]
        have e : ((xs.take k).map f ++ List.replicate (xs.length - k) z).set k (f xs[k]) = (xs.take (k + 1)).map f ++ List.replicate (xs.length - (k + 1)) z := by
          apply List.ext_getElem?
          intro j
          rw [List.getElem?_set]
          by_cases hj : k = j
          · subst hj
            rw [if_pos rfl, if_pos (by simp; omega), List.getElem?_append_left (by simp; omega)]
            simp [hlt]
          · rw [if_neg hj]
            by_cases h2 : j < k
            · rw [List.getElem?_append_left (by simp; omega), List.getElem?_append_left (by simp; omega)]
              simp [h2, show j < k + 1 by omega]
            · rw [List.getElem?_append_right (by simp; omega), List.getElem?_append_right (by simp; omega)]
              simp only [List.getElem?_replicate, List.length_map, List.length_take, Nat.min_eq_left (Nat.le_of_lt hlt), Nat.min_eq_left (show k + 1 ≤ xs.length from hlt)]
              by_cases h3 : j < xs.length
              · rw [if_pos (by omega), if_pos (by omega)]
              · rw [if_neg (by omega), if_neg (by omega)]
        show iter step n (((k + 1 : Nat) : Int), _) = _
        rw [e]
        exact ih n (k + 1) (by omega) (by omega) (by omega)
  have := key (xs.length - 0) FU 0 rfl (Nat.zero_le _) (by have := FU_big; omega)
  simpa using this
end Go.AM
set_option linter.unusedVariables false
set_option linter.unusedSimpArgs false
namespace Go.AM
attribute [local simp] ltB_self eqB_refl ix_nat
def okL {α : Type} (ok : α → Prop) (xs : List α) : Prop := xs.length ≤ 1048576 ∧ ∀ x ∈ xs, ok x
def preL {α : Type} (pre : α → Prop) (xs : List α) : Prop := xs.length ≤ 9223372036854775807 ∧ ∀ x ∈ xs, pre x
theorem forL_const {α ρ : Type} {body : Unit → α → Option (Step Unit ρ)} {fin : Unit → Option ρ} : ∀ (xs : List α), (∀ x ∈ xs, body () x = some (.next ())) → forL body fin xs () = fin ()
  | [], _ => rfl
  | x :: xs, h => by rw [forL, h x (by simp)]; exact forL_const xs (fun y hy => h y (by simp [hy]))
/-- What a count of the elements answers: -1, or something that is left, and then all is small. -/
def Sz {α : Type} (f : α → Int → Option Int) (ok pre : α → Prop) : Prop :=
  ∀ a left, pre a → 0 ≤ left → left ≤ 1048576 → ∃ r, f a left = some r ∧ r ≤ 1048576 ∧ ((ltB r 0 = true ∧ r = -1) ∨ (ltB r 0 = false ∧ 0 ≤ r ∧ ok a))
theorem lt0_t {r : Int} (h : r < 0) : ltB r 0 = true := by simp [ltB, h]
theorem lt0_f {r : Int} (h : 0 ≤ r) : ltB r 0 = false := by simp [ltB]; omega
/-- A list of flat elements. -/
theorem sz_flat {α : Type} {pre : α → Prop} {f : List α → Int → Option Int} (hf : ∀ xs left, f xs left = bif ltB (WR (left - ((xs.length : Nat) : Int))) 0 then some (-1) else some (WR (left - ((xs.length : Nat) : Int)))) : Sz f (okL fun _ => True) (preL pre) := by
  intro xs left hp h0 h1
  have := hp.1
  rw [hf, WR_in (by omega)]
  by_cases hc : left < xs.length
  · refine ⟨-1, by rw [lt0_t (by omega)]; rfl, by omega, .inl ⟨lt0_t (by omega), rfl⟩⟩
  · refine ⟨left - xs.length, by rw [lt0_f (by omega)]; rfl, by omega, .inr ⟨lt0_f (by omega), by omega, by omega, fun _ _ => trivial⟩⟩
theorem sz_list {α : Type} {e : α → Int → Option Int} {ok pre : α → Prop} {f : List α → Int → Option Int} {L : List α → Int × Int → Option (Step (Int × Int) Int)} (he : Sz e ok pre)
    (hf : ∀ xs left, f xs left = bif ltB (WR (left - ((xs.length : Nat) : Int))) 0 then some (-1) else iter (L xs) FU (WR (left - ((xs.length : Nat) : Int)), 0))
    (hL : ∀ xs v1 v2, L xs (v1, v2) = bif ltB v2 ((xs.length : Nat) : Int) then (Option.bind (ix xs v2) fun x => Option.bind (e x v1) fun r => bif ltB r 0 then dn (some (-1)) else some (.next (r, WR (v2 + 1)))) else dn (some v1)) :
    Sz f (okL ok) (preL pre) := by
  intro xs left hp h0 h1
  have hl := hp.1
  rw [hf, WR_in (by omega)]
  by_cases hc : left < xs.length
  · exact ⟨-1, by rw [lt0_t (by omega)]; rfl, by omega, .inl ⟨lt0_t (by omega), rfl⟩⟩
  · rw [lt0_f (by omega)]
    have hfor := iter_for (step := L xs) xs (fun k (s : Int) => (s, (k : Int))) (fun s x => Option.bind (e x s) fun r => bif ltB r 0 then some (.done (-1)) else some (.next r)) (fun s => some s) (by omega)
      (fun k x s hx hk => by simp [hL, ltB_lt hk, hx, WR_succ (show k < 9223372036854775807 by omega)]) (fun s => by simp [hL]) (left - xs.length)
    have key : ∀ (ys : List α) (s : Int), (∀ y ∈ ys, pre y) → 0 ≤ s → s ≤ 1048576 → ∃ r, forL (fun s x => Option.bind (e x s) fun r => bif ltB r 0 then some (.done (-1)) else some (.next r)) (fun s => some s) ys s = some r ∧ r ≤ 1048576 ∧ ((ltB r 0 = true ∧ r = -1) ∨ (ltB r 0 = false ∧ 0 ≤ r ∧ ∀ y ∈ ys, ok y)) := by
      intro ys
      induction ys with
      | nil => intro s _ h2 h3; exact ⟨s, rfl, h3, .inr ⟨lt0_f h2, h2, by simp⟩⟩
      | cons y ys ih =>
        intro s hy h2 h3
        obtain ⟨r, k1, k2, k3⟩ := he y s (hy y (by simp)) h2 h3
        rw [forL, k1]
        rcases k3 with ⟨k3, rfl⟩ | ⟨k3, k4, k5⟩
        · exact ⟨-1, by simp [k3], by omega, .inl ⟨k3, rfl⟩⟩
        · obtain ⟨q, m1, m2, m3⟩ := ih r (fun z hz => hy z (by simp [hz])) k4 k2
          refine ⟨q, by simpa [k3] using m1, m2, ?_⟩
          rcases m3 with m3 | ⟨m3, m4, m5⟩
          · exact .inl m3
          · exact .inr ⟨m3, m4, fun z hz => by rcases List.mem_cons.1 hz with rfl | hz; exact k5; exact m5 z hz⟩
    obtain ⟨r, m1, m2, m3⟩ := key xs (left - xs.length) hp.2 (by omega) (by omega)
    refine ⟨r, by simpa using hfor.trans m1, m2, ?_⟩
    rcases m3 with m3 | ⟨m3, m4, m5⟩
    · exact .inl m3
    · exact .inr ⟨m3, m4, by omega, m5⟩
theorem to_list {α : Type} {ok : α → Prop} {t : α → Option α} (z : α) {f : List α → Option (List α)} {L : List α → Int × List α → Option (Step (Int × List α) (List α))} {by_ : Nat} (hby : by_ ≤ 100000) (ht : ∀ a, ok a → t a = some a)
    (hf : ∀ xs, f xs = bif mkOk by_ ((xs.length : Nat) : Int) ((xs.length : Nat) : Int) then (Option.bind (iter (L xs) FU (0, List.replicate (((xs.length : Nat) : Int)).toNat z)) fun v => some v) else none)
    (hL : ∀ xs v1 v2, L xs (v1, v2) = bif ltB v1 ((xs.length : Nat) : Int) then (Option.bind (ix xs v1) fun x => Option.bind (t x) fun r => Option.bind (ix v2 v1) fun _ => some (.next (WR (v1 + 1), v2.set v1.toNat r))) else some (.done v2)) :
    ∀ xs, okL ok xs → f xs = some xs := by
  intro xs hx
  have hl := hx.1
  have := iter_copy (step := L xs) id z xs (by omega)
    (fun k x v hx' hv => by
      have hk := (List.getElem?_eq_some_iff.1 hx').1
      simp [hL, ltB_lt hk, hx', ht x (hx.2 x (List.mem_of_getElem? hx')), WR_succ (show k < 9223372036854775807 by omega), List.getElem?_eq_getElem (show k < v.length by omega)])
    (fun v => by simp [hL])
  simp only [List.map_id] at this
  have hm : mkOk by_ ((xs.length : Nat) : Int) ((xs.length : Nat) : Int) = true := by
    simp only [mkOk, decide_eq_true_eq]
    have h1 : by_ * xs.length ≤ 100000 * 1048576 := Nat.mul_le_mul hby hl
    have h2 : ((by_ * xs.length : Nat) : Int) ≤ 104857600000 := by omega
    rw [Int.natCast_mul] at h2
    omega
  rw [hf, hm]
  simp [this]
theorem eq_list {α : Type} {ok : α → Prop} {e : α → α → Option Bool} {f : List α → List α → Option Bool} {L : List α → List α → Int → Option (Step Int Bool)} (he : ∀ a, ok a → e a a = some true)
    (hf : ∀ xs ys, f xs ys = bif !eqB ((xs.length : Nat) : Int) ((ys.length : Nat) : Int) then some false else iter (L xs ys) FU 0)
    (hL : ∀ xs ys v1, L xs ys v1 = bif ltB v1 ((xs.length : Nat) : Int) then (Option.bind (ix xs v1) fun x => Option.bind (ix ys v1) fun y => Option.bind (e x y) fun r => bif !r then dn (some false) else some (.next (WR (v1 + 1)))) else dn (some true)) :
    ∀ xs, okL ok xs → f xs xs = some true := by
  intro xs hx
  have hl := hx.1
  have := iter_for (step := L xs xs) xs (fun k (_ : Unit) => (k : Int)) (fun _ x => Option.bind (e x x) fun r => bif !r then some (.done false) else some (.next ())) (fun _ => some true) (by omega)
    (fun k x s hx' hk => by simp [hL, ltB_lt hk, hx', WR_succ (show k < 9223372036854775807 by omega)]) (fun s => by simp [hL]) ()
  rw [hf, eqB_refl]
  simp only [Bool.not_true, cond_false]
  refine Eq.trans (show iter (L xs xs) FU 0 = _ from this) ?_
  exact forL_const xs (fun x hx' => by simp [he x (hx.2 x hx')])
/-- The marked list. -/
def marks {α : Type} (g : Int → α) (c : Int) : Nat → Int → List α
  | 0, _ => []
  | n + 1, k => g k :: marks g c n (k + c)
theorem marks_len {α : Type} (g : Int → α) (c : Int) : ∀ n k, (marks g c n k).length = n
  | 0, _ => rfl
  | n + 1, k => by simp [marks, marks_len g c n]
theorem marks_at {α : Type} (g : Int → α) (c : Int) : ∀ (n : Nat) (k : Int) (j : Nat), j < n → (marks g c n k)[j]? = some (g (k + c * j))
  | n + 1, k, 0, _ => by simp [marks]
  | n + 1, k, j + 1, h => by
    rw [marks, List.getElem?_cons_succ, marks_at g c n (k + c) j (by omega)]
    congr 2
    rw [Int.natCast_add, Int.mul_add]; omega
theorem mark_list {α : Type} (g : Int → α) (c : Nat) (hc : c ≤ 100) {L : Int × Int × List α → Option (Step (Int × Int × List α) (Int × List α))}
    (hL : ∀ (k : Int) (i : Nat) (v : List α), i < v.length → v.length ≤ 1048576 → 0 ≤ k → k ≤ 1000000000 → L (k, (i : Int), v) = some (.next (k + c, ((i + 1 : Nat) : Int), v.set i (g k))))
    (hE : ∀ (k : Int) (v : List α), L (k, ((v.length : Nat) : Int), v) = some (.done (k, v))) (xs : List α) (hx : xs.length ≤ 1048576) :
    iter L FU (1, 0, xs) = some (1 + (c : Int) * (xs.length : Int), marks g c xs.length 1) := by
  have hcl : ∀ j : Nat, j ≤ xs.length → (c : Int) * j ≤ 104857600 ∧ 0 ≤ (c : Int) * j := fun j hj => by
    have h1 : c * j ≤ 100 * 1048576 := Nat.mul_le_mul hc (by omega)
    have h2 : ((c * j : Nat) : Int) ≤ 104857600 ∧ 0 ≤ ((c * j : Nat) : Int) := by omega
    rwa [Int.natCast_mul] at h2
  have key : ∀ (m n : Nat) (j : Nat), m = xs.length - j → j ≤ xs.length → m < n → iter L n (1 + (c : Int) * j, (j : Int), (marks g c xs.length 1).take j ++ xs.drop j) = some (1 + (c : Int) * (xs.length : Int), marks g c xs.length 1) := by
    intro m
    induction m with
    | zero =>
      intro n j hm hj hn
      cases n with
      | zero => omega
      | succ n =>
        have : j = xs.length := by omega
        subst this
        have hlen : ((marks g c xs.length 1).take xs.length ++ xs.drop xs.length).length = xs.length := by simp [marks_len]
        have := hE (1 + (c : Int) * xs.length) ((marks g c xs.length 1).take xs.length ++ xs.drop xs.length)
        rw [hlen] at this
        rw [iter, this]
        simp [List.take_of_length_le (Nat.le_of_eq (marks_len g c xs.length 1))]
    | succ m ih =>
      intro n j hm hj hn
      cases n with
      | zero => omega
      | succ n =>
        have hlt : j < xs.length := by omega
        have := hcl j hj
        rw [iter, hL _ j _ (by simp [marks_len]; omega) (by simp [marks_len]; omega) (by omega) (by omega)]
        have e : ((marks g c xs.length 1).take j ++ xs.drop j).set j (g (1 + (c : Int) * j)) = (marks g c xs.length 1).take (j + 1) ++ xs.drop (j + 1) := by
          rw [List.set_append_right _ _ (by simp [marks_len]; omega)]
          simp only [List.length_take, marks_len, Nat.min_eq_left hj, Nat.sub_self]
          rw [List.drop_eq_getElem_cons hlt, List.set_cons_zero, List.take_add_one, marks_at g c _ _ j hlt]
          simp
        show iter L n (1 + (c : Int) * j + c, ((j + 1 : Nat) : Int), _) = _
        rw [e, show (1 + (c : Int) * j + c) = 1 + (c : Int) * ((j + 1 : Nat) : Int) from by rw [Int.natCast_add, Int.mul_add]; omega]
        exact ih n (j + 1) (by omega) (by omega) (by omega)
  have := key (xs.length - 0) FU 0 rfl (Nat.zero_le _) (by have := FU_big; omega)
  simpa using this
theorem held_list {α : Type} (g : Int → α) (c : Nat) (hc : c ≤ 100) {L : List α → Int × Int → Option (Step (Int × Int) Int)}
    (hL : ∀ (xs : List α) (k : Int) (i : Nat), xs[i]? = some (g k) → 0 ≤ k → k ≤ 1000000000 → i ≤ 1048576 → L xs (k, (i : Int)) = some (.next (k + c, ((i + 1 : Nat) : Int))))
    (hE : ∀ (xs : List α) (k : Int), L xs (k, ((xs.length : Nat) : Int)) = some (.done k)) (n0 : Nat) (hx : n0 ≤ 1048576) :
    iter (L (marks g c n0 1)) FU (1, 0) = some (1 + (c : Int) * n0) := by
  have hcl : ∀ j : Nat, j ≤ n0 → (c : Int) * j ≤ 104857600 ∧ 0 ≤ (c : Int) * j := fun j hj => by
    have h1 : c * j ≤ 100 * 1048576 := Nat.mul_le_mul hc (by omega)
    have h2 : ((c * j : Nat) : Int) ≤ 104857600 ∧ 0 ≤ ((c * j : Nat) : Int) := by omega
    rwa [Int.natCast_mul] at h2
  have key : ∀ (m n : Nat) (j : Nat), m = n0 - j → j ≤ n0 → m < n → iter (L (marks g c n0 1)) n (1 + (c : Int) * j, (j : Int)) = some (1 + (c : Int) * n0) := by
    intro m
    induction m with
    | zero =>
      intro n j hm hj hn
      cases n with
      | zero => omega
      | succ n =>
        have : j = n0 := by omega
        subst this
        have := hE (marks g c j 1) (1 + (c : Int) * j)
        rw [marks_len] at this
        rw [iter, this]
    | succ m ih =>
      intro n j hm hj hn
      cases n with
      | zero => omega
      | succ n =>
        have := hcl j hj
        rw [iter, hL _ _ j (marks_at g c n0 1 j (by omega)) (by omega) (by omega) (by omega)]
        show iter _ n (1 + (c : Int) * j + c, ((j + 1 : Nat) : Int)) = _
        rw [show (1 + (c : Int) * j + c) = 1 + (c : Int) * ((j + 1 : Nat) : Int) from by rw [Int.natCast_add, Int.mul_add]; omega]
        exact ih n (j + 1) (by omega) (by omega) (by omega)
  have := key (n0 - 0) FU 0 rfl (Nat.zero_le _) (by have := FU_big; omega)
  simpa using this
/-- The wanted elements, one behind the other. -/
def fappB {α β : Type} (by_ : Nat) (p : α → Bool) (f : α → β) (acc : List β) (x : α) : Option (Step (List β) (List β)) :=
  bif p x then (bif apOk by_ (acc ++ [f x]).length then some (.next (acc ++ [f x])) else none) else some (.next acc)
theorem fapp_eq {α β : Type} {by_ : Nat} (hb : by_ ≤ 100000) (p : α → Bool) (f : α → β) : ∀ (xs : List α) (acc : List β), acc.length + xs.length ≤ 1048576 → forL (fappB by_ p f) some xs acc = some (acc ++ (xs.filter p).map f)
  | [], acc, h => by simp [forL]
  | x :: xs, acc, h => by
    simp only [List.length_cons] at h
    rw [forL]
    cases hp : p x with
    | false =>
      rw [List.filter_cons_of_neg (by simp [hp])]
      simpa [fappB, hp] using fapp_eq hb p f xs acc (by omega)
    | true =>
      have ha : apOk by_ (acc ++ [f x]).length = true := by
        have h1 : (acc ++ [f x]).length * by_ ≤ 1048577 * 100000 := Nat.mul_le_mul (by simp; omega) hb
        simp only [apOk, decide_eq_true_eq]
        refine ⟨by omega, by simp; omega⟩
      rw [List.filter_cons_of_pos (by simp [hp])]
      simp only [fappB, hp, ha, cond_true]
      rw [fapp_eq hb p f xs (acc ++ [f x]) (by simp; omega)]
      simp
theorem filt_len {α β : Type} (p : α → Bool) (f : α → β) (xs : List α) : ((xs.filter p).map f).length ≤ xs.length := by simp; exact List.length_filter_le _ _
/-- A loop that counts from lo up to hi. -/
theorem iter_cnt {σ τ ρ : Type} {step : τ → Option (Step τ ρ)} (lo hi : Nat) (hlh : lo ≤ hi) (hhi : hi ≤ 9223372036854775806) (mk : Nat → σ → τ) (body : σ → Nat → Option (Step σ ρ)) (fin : σ → Option ρ)
    (hs : ∀ (k : Nat) (s : σ), lo ≤ k → k < hi → step (mk k s) = stepM (mk (k + 1)) (body s k)) (he : ∀ s, step (mk hi s) = dn (fin s)) (s0 : σ) : iter step FU (mk lo s0) = forL body fin (List.range' lo (hi - lo)) s0 := by
  have := iter_for (step := step) (List.range' lo (hi - lo)) (fun k s => mk (lo + k) s) body fin (by simp; omega)
    (fun k x s hx hk => by
      simp only [List.length_range'] at hk
      have : x = lo + k := by simpa [List.getElem?_range', hk] using hx.symm
      subst this
      exact hs (lo + k) s (by omega) (by omega)) (fun s => by
      rw [List.length_range', show lo + (hi - lo) = hi from by omega]; exact he s) s0
  simpa using this
theorem forL_grow {α β : Type} {m : Nat} {body : List β → α → Option (Step (List β) (List β))} (h : ∀ s x, s.length ≤ m → ∃ s', body s x = some (.next s') ∧ s'.length ≤ s.length + 1) : ∀ (xs : List α) (s : List β), s.length + xs.length ≤ m + 1 → ∃ r, forL body some xs s = some r ∧ r.length ≤ s.length + xs.length
  | [], s, _ => ⟨s, rfl, by simp⟩
  | x :: xs, s, hl => by
    simp only [List.length_cons] at hl
    obtain ⟨s', h1, h2⟩ := h s x (by omega)
    obtain ⟨r, h3, h4⟩ := forL_grow h xs s' (by omega)
    exact ⟨r, by rw [forL, h1]; exact h3, by simp; omega⟩
theorem apOk_small {by_ n : Nat} (hb : by_ ≤ 100000) (hn : n ≤ 1048577) : apOk by_ n = true := by
  have h1 : n * by_ ≤ 1048577 * 100000 := Nat.mul_le_mul hn hb
  simp only [apOk, decide_eq_true_eq]
  omega
def okU8 (n : Int) : Prop := 0 ≤ n ∧ n ≤ 255
theorem wf_u8 {n : Int} (h : (Lit.int .u8 n).wf = true) : okU8 n := by
  simp [Lit.wf, IntKind.min, IntKind.max, IntKind.signed, IntKind.bits] at h
  exact ⟨by omega, by omega⟩
/-- The first place where p holds, or -1. -/
theorem find_rule {α : Type} {L : Int → Option (Step Int Int)} (xs : List α) (p : α → Bool) (hl : xs.length ≤ 9223372036854775806)
    (hs : ∀ (k : Nat) (x : α), xs[k]? = some x → k < xs.length → L (k : Int) = bif p x then some (.done (k : Int)) else some (.next ((k + 1 : Nat) : Int))) (he : L ((xs.length : Nat) : Int) = some (.done (-1))) :
    iter L FU 0 = some (idxF p 0 xs) := by
  have key : ∀ (m n : Nat) (k : Nat), m = xs.length - k → k ≤ xs.length → m < n → iter L n (k : Int) = some (idxF p k (xs.drop k)) := by
    intro m
    induction m with
    | zero =>
      intro n k hm hk hn
      cases n with
      | zero => omega
      | succ n =>
        have : k = xs.length := by omega
        subst this
        rw [iter, he, List.drop_length, idxF]
    | succ m ih =>
      intro n k hm hk hn
      cases n with
      | zero => omega
      | succ n =>
        have hlt : k < xs.length := by omega
        rw [iter, hs k xs[k] (List.getElem?_eq_getElem hlt) hlt, idx_drop hlt]
        cases p xs[k] with
        | true => rfl
        | false => exact ih n (k + 1) (by omega) (by omega) (by omega)
  have := key (xs.length - 0) FU 0 rfl (Nat.zero_le _) (by have := FU_big; omega)
  simpa using this
theorem idx_cases {α : Type} (p : α → Bool) : ∀ (xs : List α) (i : Nat), idxF p (i : Int) xs = -1 ∧ (∀ x ∈ xs, p x = false) ∨ ∃ j : Nat, idxF p (i : Int) xs = ((i + j : Nat) : Int) ∧ ∃ x, xs[j]? = some x ∧ p x = true ∧ ∀ y ∈ xs.take j, p y = false
  | [], i => .inl ⟨rfl, by simp⟩
  | x :: xs, i => by
    rw [idxF]
    cases hp : p x with
    | true => exact .inr ⟨0, by simp, x, rfl, hp, by simp⟩
    | false =>
      rcases idx_cases p xs (i + 1) with ⟨h1, h2⟩ | ⟨j, h1, y, h2, h3, h4⟩
      · exact .inl ⟨by simpa using h1, by simp [hp]; exact h2⟩
      · refine .inr ⟨j + 1, ?_, y, by simpa using h2, h3, by simp [hp]; exact h4⟩
        have : idxF p ((i : Int) + 1) xs = ((i + 1 + j : Nat) : Int) := by simpa using h1
        simp only [cond_false]
        rw [this]; omega
/-- Is there an element? -/
theorem any_rule {α : Type} {L : Int → Option (Step Int Bool)} (xs : List α) (p : α → Bool) (hl : xs.length ≤ 9223372036854775806)
    (hs : ∀ (k : Nat) (x : α), xs[k]? = some x → k < xs.length → L (k : Int) = bif p x then some (.done true) else some (.next ((k + 1 : Nat) : Int))) (he : L ((xs.length : Nat) : Int) = some (.done false)) :
    iter L FU 0 = some (xs.any p) := by
  have := iter_for (step := L) xs (fun k (_ : Unit) => (k : Int)) (fun _ x => bif p x then some (.done true) else some (.next ())) (fun _ => some false) hl
    (fun k x s hx hk => by rw [hs k x hx hk]; cases p x <;> rfl) (fun s => by rw [he]; rfl) ()
  refine Eq.trans (show iter L FU 0 = _ from this) ?_
  have key : ∀ xs : List α, forL (fun (_ : Unit) x => bif p x then some (Step.done true) else some (.next ())) (fun _ => some false) xs () = some (xs.any p) := by
    intro xs
    induction xs with
    | nil => rfl
    | cons x xs ih => rw [forL]; cases hp : p x <;> simp [hp, ih]
  exact key xs
/-- Are all so? -/
theorem all_rule {α : Type} {L : Int → Option (Step Int Bool)} (xs : List α) (p : α → Bool) (hl : xs.length ≤ 9223372036854775806)
    (hs : ∀ (k : Nat) (x : α), xs[k]? = some x → k < xs.length → L (k : Int) = bif p x then some (.next ((k + 1 : Nat) : Int)) else some (.done false)) (he : L ((xs.length : Nat) : Int) = some (.done true)) :
    iter L FU 0 = some (xs.all p) := by
  have := iter_for (step := L) xs (fun k (_ : Unit) => (k : Int)) (fun _ x => bif p x then some (.next ()) else some (.done false)) (fun _ => some true) hl
    (fun k x s hx hk => by rw [hs k x hx hk]; cases p x <;> rfl) (fun s => by rw [he]; rfl) ()
  refine Eq.trans (show iter L FU 0 = _ from this) ?_
  have key : ∀ xs : List α, forL (fun (_ : Unit) x => bif p x then some (.next ()) else some (Step.done false)) (fun _ => some true) xs () = some (xs.all p) := by
    intro xs
    induction xs with
    | nil => rfl
    | cons x xs ih => rw [forL]; cases hp : p x <;> simp [hp, ih]
  exact key xs
end Go.AM
set_option linter.unusedVariables false
namespace Go.AM
/-! marks of which only the number counts -/
def Mk {α : Type} (f : α → Int → Option Int) (ok : α → Prop) (B : Int) : Prop :=
  ∀ a k, ok a → 0 ≤ k → k + B ≤ 9223372036854775807 → ∃ k', f a k = some k' ∧ k ≤ k' ∧ k' ≤ k + B
theorem mk_list {α : Type} {f : List α → Int → Option Int} {L : List α → Int × Int → Option (Step (Int × Int) Int)} {ok : α → Prop} {b B : Int} (hb : 0 ≤ b) (hB : 1048576 * b ≤ B)
    (hf : ∀ xs k, f xs k = Option.bind (iter (L xs) FU (k, 0)) fun r => some r)
    (he : ∀ xs k, L xs (k, ((xs.length : Nat) : Int)) = some (.done k))
    (hs : ∀ (xs : List α) (k : Int) (i : Nat) (x : α), xs[i]? = some x → i < xs.length → xs.length ≤ 1048576 → ok x → 0 ≤ k → k + b ≤ 9223372036854775807 → ∃ k', L xs (k, (i : Int)) = some (.next (k', ((i + 1 : Nat) : Int))) ∧ k ≤ k' ∧ k' ≤ k + b) :
    Mk f (okL ok) B := by
  intro xs k hok h0 h1
  have key : ∀ (m n i : Nat) (k : Int), m = xs.length - i → i ≤ xs.length → m < n → 0 ≤ k → k + m * b ≤ 9223372036854775807 → ∃ k', iter (L xs) n (k, (i : Int)) = some k' ∧ k ≤ k' ∧ k' ≤ k + m * b := by
    intro m
    induction m with
    | zero =>
      intro n i k hm hi hn hk hkb
      cases n with
      | zero => omega
      | succ n =>
        have : i = xs.length := by omega
        subst this
        exact ⟨k, by rw [iter, he], by omega, by omega⟩
    | succ m ih =>
      intro n i k hm hi hn hk hkb
      cases n with
      | zero => omega
      | succ n =>
        have hlt : i < xs.length := by omega
        have hmul : ((m + 1 : Nat) : Int) * b = m * b + b := by rw [Int.natCast_add, Int.add_mul]; simp
        have hmb : 0 ≤ (m : Int) * b := Int.mul_nonneg (by omega) hb
        rw [hmul] at hkb
        obtain ⟨k1, e1, l1, u1⟩ := hs xs k i xs[i] (List.getElem?_eq_getElem hlt) hlt hok.1 (hok.2 _ (List.getElem_mem hlt)) hk (by omega)
        obtain ⟨k2, e2, l2, u2⟩ := ih n (i + 1) k1 (by omega) (by omega) (by omega) (by omega) (by omega)
        exact ⟨k2, by rw [iter, e1]; exact e2, by omega, by rw [hmul]; omega⟩
  have hlb : (xs.length : Int) * b ≤ 1048576 * b := Int.mul_le_mul_of_nonneg_right (by have := hok.1; omega) hb
  obtain ⟨k', e, l, u⟩ := key xs.length FU 0 k (by omega) (by omega) (by have := FU_big; have := hok.1; omega) h0 (by omega)
  exact ⟨k', by rw [hf]; show Option.bind (iter (L xs) FU (k, ((0 : Nat) : Int))) _ = _; rw [e]; rfl, l, by omega⟩
/-- Over the elements, all must be so; then the answer is c. -/
theorem allK {α : Type} {L : Int → Option (Step Int Bool)} (xs : List α) (p : Nat → α → Bool) (c : Option Bool) (hl : xs.length ≤ 9223372036854775806)
    (hs : ∀ (k : Nat) (x : α), xs[k]? = some x → k < xs.length → L (k : Int) = bif p k x then some (.next ((k + 1 : Nat) : Int)) else some (.done false)) (he : L ((xs.length : Nat) : Int) = dn c) :
    iter L FU 0 = bif xs.zipIdx.all (fun y => p y.2 y.1) then c else some false := by
  have := iter_for (step := L) xs.zipIdx (fun k (_ : Unit) => (k : Int)) (fun _ y => bif p y.2 y.1 then some (.next ()) else some (.done false)) (fun _ => c) (by simpa using hl)
    (fun k y s hy hk => by
      have hk' : k < xs.length := by simpa using hk
      have : y = (xs[k], k) := by rw [List.getElem?_eq_getElem hk] at hy; simpa using hy.symm
      subst this
      rw [hs k xs[k] (List.getElem?_eq_getElem hk') hk']; cases p k xs[k] <;> rfl) (fun s => by rw [List.length_zipIdx, he]) ()
  refine Eq.trans (show iter L FU 0 = _ from this) ?_
  have key : ∀ ys : List (α × Nat), forL (fun (_ : Unit) y => bif p y.2 y.1 then some (.next ()) else some (Step.done false)) (fun _ => c) ys () = bif ys.all (fun y => p y.2 y.1) then c else some false := by
    intro ys
    induction ys with
    | nil => rfl
    | cons x xs ih => rw [forL]; cases hp : p x.2 x.1 <;> simp [hp, ih]
  exact key _
def inR (n a b : Int) : Bool := leB a n && leB n b
theorem inR_iff {n a b : Int} : inR n a b = true ↔ a ≤ n ∧ n ≤ b := by simp [inR, leB]
theorem inR_and (i : Int) (m n : Nat) : (inR i 0 ((m : Int) - 1) && inR i 0 ((n : Int) - 1)) = inR i 0 ((if (n : Int) < m then (n : Int) else m) - 1) := by
  rw [Bool.eq_iff_iff, Bool.and_eq_true, inR_iff, inR_iff, inR_iff]
  split <;> omega
theorem WR_pred {n : Nat} (h : n ≤ 1048576) : WR ((n : Int) - 1) = (n : Int) - 1 := WR_in (by omega)
theorem ix_in {α : Type} {xs : List α} {i : Int} (h0 : 0 ≤ i) (h1 : i < xs.length) : ∃ x, x ∈ xs ∧ ix xs i = some x := by
  obtain ⟨k, rfl⟩ := Int.eq_ofNat_of_zero_le h0
  have hk : k < xs.length := by omega
  exact ⟨xs[k], List.getElem_mem hk, by rw [ix_nat, List.getElem?_eq_getElem hk]⟩
theorem booB_refl (b : Bool) : booB b b = true := by simp
end Go.AM
set_option linter.unusedVariables false
namespace Go.AM
/-- A number within its kind's range. -/
def rgI (k : IntKind) (n : Int) : Prop := (Lit.int k n).wf = true
theorem WTs.cut {s : Sh} {ss : List Sh} {x : D} {xs : List D} (h : WTs (s :: ss) (x :: xs)) : WT s x ∧ WTs ss xs := by
  cases h with | cons h h' => exact ⟨h, h'⟩
theorem WT.rg {k : IntKind} {n : Int} (h : WT (.i k) (.i k n)) : rgI k n := by
  cases h with | i h => exact h
theorem WTL_mem {α : Type} {e : List Sh} {f : α → List D} : ∀ {xs : List α}, WTL e (xs.map f) → ∀ x ∈ xs, WTs e (f x)
  | [], _, x, hx => by cases hx
  | y :: ys, h, x, hx => by
    cases h with
    | cons h1 h2 =>
      rcases List.mem_cons.1 hx with rfl | hx
      · exact h1
      · exact WTL_mem h2 x hx
theorem WT.rl {α : Type} {e : List Sh} {f : α → List D} {xs : List α} (h : WT (.l e) (.l (xs.map f))) : ∀ x ∈ xs, WTs e (f x) := by
  cases h with | l hl h => exact WTL_mem h
theorem rg64 {n : Int} (h : rgI .i64 n) : -9223372036854775808 ≤ n ∧ n ≤ 9223372036854775807 := wf_i64 h
end Go.AM
set_option linter.unusedVariables false
set_option linter.unusedSimpArgs false
namespace Go.AM
attribute [local simp] ltB_self eqB_refl ix_nat
theorem psz_ByteS : Sz lszByteS (okL (fun _ => True)) (preL okU8) := sz_flat (fun _ _ => rfl)
theorem pto_ByteS : ∀ xs, okL (fun _ => True) xs → ltoByteS xs = some xs := to_list (0 : Int) (by decide) (t := fun a => some a) (fun _ _ => rfl) (fun _ => rfl) (fun _ _ _ => rfl)
theorem peq_ByteS : ∀ xs, okL (fun _ => True) xs → leqByteS xs xs = some true := eq_list (e := fun x y => some (eqB x y)) (fun _ _ => by simp [eqB_refl]) (fun _ _ => rfl) (fun _ _ _ => rfl)
theorem pz_ByteS : Mk lmarkByteS_z (okL (fun _ => True)) 1048576 := by
  refine mk_list (L := lmarkByteS_z_L1) (b := 1) (by decide) (by decide) (fun _ _ => rfl) (fun xs k => by simp [lmarkByteS_z_L1, ltB_self]) (fun xs k i x hx hi hl hok h0 h1 => ?_)
  · skip
    refine ⟨k + 1, ?_, by omega, by omega⟩
    have hw : ∀ n : Int, 0 ≤ n → n ≤ 9223372036854775807 → WR n = n := fun n h h' => WR_in (by omega)
    simp (disch := omega) only [lmarkByteS_z_L1, ltB_lt hi, ix_nat, hx, WR_succ (show i < 9223372036854775807 by omega), Option.bind_some, cond_true, hw, Int.add_assoc, Int.reduceAdd]
def okTCell (a : TCell) : Prop := okL (fun _ => True) a.Neighbors
def preTCell (a : TCell) : Prop := preL (fun _ => True) a.Neighbors
theorem wtTCell {x : List D} (h0 : WTs [.i .i64, .l [.i .i64]] x) : ∃ a : TCell, x = eTCell a ∧ preTCell a := by
  obtain ⟨n0, r0, rfl, w0, h1⟩ := h0.gi
  obtain ⟨y1, r1, rfl, l1, w1, h2⟩ := h1.gl
  obtain ⟨n1, rfl, p1⟩ := WTL_map (f := eI) (p := (fun _ => True)) (fun x h => by obtain ⟨n, r, rfl, w, h⟩ := h.gi; obtain rfl := h.gn; exact ⟨n, rfl, trivial⟩) w1
  obtain rfl := h2.gn
  exact ⟨⟨n0, n1⟩, rfl, ⟨by simpa using l1, p1⟩⟩
def rngTCell (a : TCell) : Prop := rgI .i64 a.Area ∧ (∀ x ∈ a.Neighbors, rgI .i64 x)
theorem rgTCell {a : TCell} (h0 : WTs [.i .i64, .l [.i .i64]] (eTCell a)) : rngTCell a := by
  unfold eTCell at h0
  obtain ⟨c0, h1⟩ := h0.cut
  obtain ⟨c1, h2⟩ := h1.cut
  exact ⟨c0.rg, fun x hx => (WTs.cut (c1.rl x hx)).1.rg⟩
theorem psz_IntS : Sz lszIntS (okL (fun _ => True)) (preL (fun _ => True)) := sz_flat (fun _ _ => rfl)
theorem psz_Cell : Sz lszCell okTCell preTCell := by
  intro a left hp h0 h1
  unfold lszCell
  obtain ⟨r0, a0, b0, c0⟩ := psz_IntS a.Neighbors left hp h0 h1
  rcases c0 with ⟨c0, rfl⟩ | ⟨c0, d0, e0⟩
  · exact ⟨-1, by simp [a0, c0], by omega, .inl ⟨c0, rfl⟩⟩
  exact ⟨r0, by simp [a0, c0], b0, .inr ⟨c0, d0, e0⟩⟩
theorem psz_CellS : Sz lszCellS (okL okTCell) (preL preTCell) := sz_list psz_Cell (fun _ _ => rfl) (fun _ _ _ => rfl)
theorem pto_IntS : ∀ xs, okL (fun _ => True) xs → ltoIntS xs = some xs := to_list (0 : Int) (by decide) (t := fun a => some a) (fun _ _ => rfl) (fun _ => rfl) (fun _ _ _ => rfl)
theorem pto_Cell : ∀ a, okTCell a → ltoCell a = some a := fun a h => by simp [ltoCell, pto_IntS _ h]
theorem pto_CellS : ∀ xs, okL okTCell xs → ltoCellS xs = some xs := to_list (⟨0, []⟩ : TCell) (by decide) pto_Cell (fun _ => rfl) (fun _ _ _ => rfl)
theorem peq_IntS : ∀ xs, okL (fun _ => True) xs → leqIntS xs xs = some true := eq_list (e := fun x y => some (eqB x y)) (fun _ _ => by simp [eqB_refl]) (fun _ _ => rfl) (fun _ _ _ => rfl)
theorem peq_Cell : ∀ a, okTCell a → leqCell a a = some true := fun a h => by simp [leqCell, eqB_refl, strB, booB, peq_IntS _ h]
theorem peq_CellS : ∀ xs, okL okTCell xs → leqCellS xs xs = some true := eq_list peq_Cell (fun _ _ => rfl) (fun _ _ _ => rfl)
theorem pz_IntS : Mk lmarkIntS_z (okL (fun _ => True)) 1048576 := by
  refine mk_list (L := lmarkIntS_z_L1) (b := 1) (by decide) (by decide) (fun _ _ => rfl) (fun xs k => by simp [lmarkIntS_z_L1, ltB_self]) (fun xs k i x hx hi hl hok h0 h1 => ?_)
  · skip
    refine ⟨k + 1, ?_, by omega, by omega⟩
    have hw : ∀ n : Int, 0 ≤ n → n ≤ 9223372036854775807 → WR n = n := fun n h h' => WR_in (by omega)
    simp (disch := omega) only [lmarkIntS_z_L1, ltB_lt hi, ix_nat, hx, WR_succ (show i < 9223372036854775807 by omega), Option.bind_some, cond_true, hw, Int.add_assoc, Int.reduceAdd]
theorem pz_CellS : Mk lmarkCellS_z (okL okTCell) 1099512676352 := by
  refine mk_list (L := lmarkCellS_z_L1) (b := 1048577) (by decide) (by decide) (fun _ _ => rfl) (fun xs k => by simp [lmarkCellS_z_L1, ltB_self]) (fun xs k i x hx hi hl hok h0 h1 => ?_)
  · skip
    obtain ⟨k0, e0, l0, u0⟩ := pz_IntS x.Neighbors (k + 1) hok (by omega) (by omega)
    refine ⟨k0, ?_, by omega, by omega⟩
    have hw : ∀ n : Int, 0 ≤ n → n ≤ 9223372036854775807 → WR n = n := fun n h h' => WR_in (by omega)
    simp (disch := omega) only [lmarkCellS_z_L1, ltB_lt hi, ix_nat, hx, WR_succ (show i < 9223372036854775807 by omega), Option.bind_some, cond_true, hw, Int.add_assoc, Int.reduceAdd, e0]
def okTCellMap (a : TCellMap) : Prop := okL okTCell a.Cells
def preTCellMap (a : TCellMap) : Prop := preL preTCell a.Cells
theorem wtTCellMap {x : List D} (h0 : WTs [.l [.i .i64, .l [.i .i64]]] x) : ∃ a : TCellMap, x = eTCellMap a ∧ preTCellMap a := by
  obtain ⟨y0, r0, rfl, l0, w0, h1⟩ := h0.gl
  obtain ⟨n0, rfl, p0⟩ := WTL_map (f := eTCell) (p := preTCell) (fun _ h => wtTCell h) w0
  obtain rfl := h1.gn
  exact ⟨⟨n0⟩, rfl, ⟨by simpa using l0, p0⟩⟩
def rngTCellMap (a : TCellMap) : Prop := (∀ x ∈ a.Cells, rngTCell x)
theorem rgTCellMap {a : TCellMap} (h0 : WTs [.l [.i .i64, .l [.i .i64]]] (eTCellMap a)) : rngTCellMap a := by
  unfold eTCellMap at h0
  obtain ⟨c0, h1⟩ := h0.cut
  exact fun x hx => rgTCell (c0.rl x hx)
theorem psz_CellMap : Sz lszCellMap okTCellMap preTCellMap := by
  intro a left hp h0 h1
  unfold lszCellMap
  obtain ⟨r0, a0, b0, c0⟩ := psz_CellS a.Cells left hp h0 h1
  rcases c0 with ⟨c0, rfl⟩ | ⟨c0, d0, e0⟩
  · exact ⟨-1, by simp [a0, c0], by omega, .inl ⟨c0, rfl⟩⟩
  exact ⟨r0, by simp [a0, c0], b0, .inr ⟨c0, d0, e0⟩⟩
theorem pto_CellMap : ∀ a, okTCellMap a → ltoCellMap a = some a := fun a h => by simp [ltoCellMap, pto_CellS _ h]
theorem peq_CellMap : ∀ a, okTCellMap a → leqCellMap a a = some true := fun a h => by simp [leqCellMap, eqB_refl, strB, booB, peq_CellS _ h]
theorem pz_CellMap : Mk lmarkCellMap_z okTCellMap 1099512676352 := by
  intro a k h h0 h1
  obtain ⟨k0, e0, l0, u0⟩ := pz_CellS a.Cells k h (by omega) (by omega)
  exact ⟨k0, by simp only [lmarkCellMap_z, e0, Option.bind_some], by omega, by omega⟩
def gIntS (k : Int) : Int := k
theorem pmark_IntS (xs : List Int) (h : xs.length ≤ 1048576) : lmarkIntS xs 1 = some (1 + (1 : Int) * (xs.length : Int), marks gIntS 1 xs.length 1) := by
  have := mark_list gIntS 1 (by decide) (L := lmarkIntS_L1) (fun k i v hi hl h0 h1 => by
    have hw : ∀ j : Int, 0 ≤ j → j ≤ 100 → WR (k + j) = k + j := fun j h2 h3 => WR_in (by omega)
    simp [lmarkIntS_L1, ltB_lt hi, ix_nat, List.getElem?_eq_getElem hi, hi, List.set_set, gIntS, WR_succ (show i < 9223372036854775807 by omega), hw, Int.add_assoc]) (fun k v => by simp [lmarkIntS_L1, ltB_self]) xs h
  unfold lmarkIntS
  rw [this]; rfl
def okTSubscription (a : TSubscription) : Prop := okL (fun _ => True) a.RoamingNetworks
def preTSubscription (a : TSubscription) : Prop := preL (fun _ => True) a.RoamingNetworks
theorem wtTSubscription {x : List D} (h0 : WTs [.i .i64, .i .i64, .i .i64, .l [.i .i64]] x) : ∃ a : TSubscription, x = eTSubscription a ∧ preTSubscription a := by
  obtain ⟨n0, r0, rfl, w0, h1⟩ := h0.gi
  obtain ⟨n1, r1, rfl, w1, h2⟩ := h1.gi
  obtain ⟨n2, r2, rfl, w2, h3⟩ := h2.gi
  obtain ⟨y3, r3, rfl, l3, w3, h4⟩ := h3.gl
  obtain ⟨n3, rfl, p3⟩ := WTL_map (f := eI) (p := (fun _ => True)) (fun x h => by obtain ⟨n, r, rfl, w, h⟩ := h.gi; obtain rfl := h.gn; exact ⟨n, rfl, trivial⟩) w3
  obtain rfl := h4.gn
  exact ⟨⟨n0, n1, n2, n3⟩, rfl, ⟨by simpa using l3, p3⟩⟩
def rngTSubscription (a : TSubscription) : Prop := rgI .i64 a.RateLimit ∧ rgI .i64 a.BestClass ∧ rgI .i64 a.GrantSize ∧ (∀ x ∈ a.RoamingNetworks, rgI .i64 x)
theorem rgTSubscription {a : TSubscription} (h0 : WTs [.i .i64, .i .i64, .i .i64, .l [.i .i64]] (eTSubscription a)) : rngTSubscription a := by
  unfold eTSubscription at h0
  obtain ⟨c0, h1⟩ := h0.cut
  obtain ⟨c1, h2⟩ := h1.cut
  obtain ⟨c2, h3⟩ := h2.cut
  obtain ⟨c3, h4⟩ := h3.cut
  exact ⟨c0.rg, c1.rg, c2.rg, fun x hx => (WTs.cut (c3.rl x hx)).1.rg⟩
theorem psz_Subscription : Sz lszSubscription okTSubscription preTSubscription := by
  intro a left hp h0 h1
  unfold lszSubscription
  obtain ⟨r0, a0, b0, c0⟩ := psz_IntS a.RoamingNetworks left hp h0 h1
  rcases c0 with ⟨c0, rfl⟩ | ⟨c0, d0, e0⟩
  · exact ⟨-1, by simp [a0, c0], by omega, .inl ⟨c0, rfl⟩⟩
  exact ⟨r0, by simp [a0, c0], b0, .inr ⟨c0, d0, e0⟩⟩
theorem pto_Subscription : ∀ a, okTSubscription a → ltoSubscription a = some a := fun a h => by simp [ltoSubscription, pto_IntS _ h]
theorem peq_Subscription : ∀ a, okTSubscription a → leqSubscription a a = some true := fun a h => by simp [leqSubscription, eqB_refl, strB, booB, peq_IntS _ h]
theorem wtTSubscriberID {x : List D} (h0 : WTs [.i .i64, .i .i64] x) : ∃ a : TSubscriberID, x = eTSubscriberID a ∧ (fun _ => True) a := by
  obtain ⟨n0, r0, rfl, w0, h1⟩ := h0.gi
  obtain ⟨n1, r1, rfl, w1, h2⟩ := h1.gi
  obtain rfl := h2.gn
  exact ⟨⟨n0, n1⟩, rfl, trivial⟩
def rngTSubscriberID (a : TSubscriberID) : Prop := rgI .i64 a.Network ∧ rgI .i64 a.Number
theorem rgTSubscriberID {a : TSubscriberID} (h0 : WTs [.i .i64, .i .i64] (eTSubscriberID a)) : rngTSubscriberID a := by
  unfold eTSubscriberID at h0
  obtain ⟨c0, h1⟩ := h0.cut
  obtain ⟨c1, h2⟩ := h1.cut
  exact ⟨c0.rg, c1.rg⟩
theorem wtTUSIM {x : List D} (h0 : WTs [.i .i64, .i .i64, .i .i64, .i .i64] x) : ∃ a : TUSIM, x = eTUSIM a ∧ (fun _ => True) a := by
  obtain ⟨n0, r0, rfl, w0, h1⟩ := h0.gi
  obtain ⟨n1, r1, rfl, w1, h2⟩ := h1.gi
  obtain ⟨n2, r2, rfl, w2, h3⟩ := h2.gi
  obtain ⟨n3, r3, rfl, w3, h4⟩ := h3.gi
  obtain rfl := h4.gn
  exact ⟨⟨⟨n0, n1⟩, n2, n3⟩, rfl, trivial⟩
def rngTUSIM (a : TUSIM) : Prop := rgI .i64 a.ID.Network ∧ rgI .i64 a.ID.Number ∧ rgI .i64 a.Key ∧ rgI .i64 a.LastSeq
theorem rgTUSIM {a : TUSIM} (h0 : WTs [.i .i64, .i .i64, .i .i64, .i .i64] (eTUSIM a)) : rngTUSIM a := by
  unfold eTUSIM at h0
  obtain ⟨c0, h1⟩ := h0.cut
  obtain ⟨c1, h2⟩ := h1.cut
  obtain ⟨c2, h3⟩ := h2.cut
  obtain ⟨c3, h4⟩ := h3.cut
  exact ⟨c0.rg, c1.rg, c2.rg, c3.rg⟩
def okTNumberedPacket (a : TNumberedPacket) : Prop := okL (fun _ => True) a.Data
def preTNumberedPacket (a : TNumberedPacket) : Prop := preL okU8 a.Data
theorem wtTNumberedPacket {x : List D} (h0 : WTs [.i .i64, .l [.i .u8]] x) : ∃ a : TNumberedPacket, x = eTNumberedPacket a ∧ preTNumberedPacket a := by
  obtain ⟨n0, r0, rfl, w0, h1⟩ := h0.gi
  obtain ⟨y1, r1, rfl, l1, w1, h2⟩ := h1.gl
  obtain ⟨n1, rfl, p1⟩ := WTL_map (f := eU8) (p := okU8) (fun x h => by obtain ⟨n, r, rfl, w, h⟩ := h.gi; obtain rfl := h.gn; exact ⟨n, rfl, wf_u8 w⟩) w1
  obtain rfl := h2.gn
  exact ⟨⟨n0, n1⟩, rfl, ⟨by simpa using l1, p1⟩⟩
def rngTNumberedPacket (a : TNumberedPacket) : Prop := rgI .i64 a.Seq ∧ (∀ x ∈ a.Data, rgI .u8 x)
theorem rgTNumberedPacket {a : TNumberedPacket} (h0 : WTs [.i .i64, .l [.i .u8]] (eTNumberedPacket a)) : rngTNumberedPacket a := by
  unfold eTNumberedPacket at h0
  obtain ⟨c0, h1⟩ := h0.cut
  obtain ⟨c1, h2⟩ := h1.cut
  exact ⟨c0.rg, fun x hx => (WTs.cut (c1.rl x hx)).1.rg⟩
def okTPayload (a : TPayload) : Prop := okL (fun _ => True) a.Data
def preTPayload (a : TPayload) : Prop := preL okU8 a.Data
theorem wtTPayload {x : List D} (h0 : WTs [.l [.i .u8]] x) : ∃ a : TPayload, x = eTPayload a ∧ preTPayload a := by
  obtain ⟨y0, r0, rfl, l0, w0, h1⟩ := h0.gl
  obtain ⟨n0, rfl, p0⟩ := WTL_map (f := eU8) (p := okU8) (fun x h => by obtain ⟨n, r, rfl, w, h⟩ := h.gi; obtain rfl := h.gn; exact ⟨n, rfl, wf_u8 w⟩) w0
  obtain rfl := h1.gn
  exact ⟨⟨n0⟩, rfl, ⟨by simpa using l0, p0⟩⟩
def rngTPayload (a : TPayload) : Prop := (∀ x ∈ a.Data, rgI .u8 x)
theorem rgTPayload {a : TPayload} (h0 : WTs [.l [.i .u8]] (eTPayload a)) : rngTPayload a := by
  unfold eTPayload at h0
  obtain ⟨c0, h1⟩ := h0.cut
  exact fun x hx => (WTs.cut (c0.rl x hx)).1.rg
def okTReceiveWindow (a : TReceiveWindow) : Prop := okL okTNumberedPacket a.Pending ∧ okL okTPayload a.Delivered
def preTReceiveWindow (a : TReceiveWindow) : Prop := preL preTNumberedPacket a.Pending ∧ preL preTPayload a.Delivered
theorem wtTReceiveWindow {x : List D} (h0 : WTs [.i .i64, .l [.i .i64, .l [.i .u8]], .l [.l [.i .u8]]] x) : ∃ a : TReceiveWindow, x = eTReceiveWindow a ∧ preTReceiveWindow a := by
  obtain ⟨n0, r0, rfl, w0, h1⟩ := h0.gi
  obtain ⟨y1, r1, rfl, l1, w1, h2⟩ := h1.gl
  obtain ⟨n1, rfl, p1⟩ := WTL_map (f := eTNumberedPacket) (p := preTNumberedPacket) (fun _ h => wtTNumberedPacket h) w1
  obtain ⟨y2, r2, rfl, l2, w2, h3⟩ := h2.gl
  obtain ⟨n2, rfl, p2⟩ := WTL_map (f := eTPayload) (p := preTPayload) (fun _ h => wtTPayload h) w2
  obtain rfl := h3.gn
  exact ⟨⟨n0, n1, n2⟩, rfl, ⟨⟨by simpa using l1, p1⟩, ⟨by simpa using l2, p2⟩⟩⟩
def rngTReceiveWindow (a : TReceiveWindow) : Prop := rgI .i64 a.Next ∧ (∀ x ∈ a.Pending, rngTNumberedPacket x) ∧ (∀ x ∈ a.Delivered, rngTPayload x)
theorem rgTReceiveWindow {a : TReceiveWindow} (h0 : WTs [.i .i64, .l [.i .i64, .l [.i .u8]], .l [.l [.i .u8]]] (eTReceiveWindow a)) : rngTReceiveWindow a := by
  unfold eTReceiveWindow at h0
  obtain ⟨c0, h1⟩ := h0.cut
  obtain ⟨c1, h2⟩ := h1.cut
  obtain ⟨c2, h3⟩ := h2.cut
  exact ⟨c0.rg, fun x hx => rgTNumberedPacket (c1.rl x hx), fun x hx => rgTPayload (c2.rl x hx)⟩
def okTDevice (a : TDevice) : Prop := okTReceiveWindow a.Receiver
def preTDevice (a : TDevice) : Prop := preTReceiveWindow a.Receiver
theorem wtTDevice {x : List D} (h0 : WTs [.i .i64, .i .i64, .i .i64, .i .i64, .i .i64, .i .i64, .i .i64, .i .i64, .i .i64, .b, .i .i64, .i .i64, .l [.i .i64, .l [.i .u8]], .l [.l [.i .u8]]] x) : ∃ a : TDevice, x = eTDevice a ∧ preTDevice a := by
  obtain ⟨n0, r0, rfl, w0, h1⟩ := h0.gi
  obtain ⟨n1, r1, rfl, w1, h2⟩ := h1.gi
  obtain ⟨n2, r2, rfl, w2, h3⟩ := h2.gi
  obtain ⟨n3, r3, rfl, w3, h4⟩ := h3.gi
  obtain ⟨n4, r4, rfl, w4, h5⟩ := h4.gi
  obtain ⟨n5, r5, rfl, w5, h6⟩ := h5.gi
  obtain ⟨n6, r6, rfl, w6, h7⟩ := h6.gi
  obtain ⟨n7, r7, rfl, w7, h8⟩ := h7.gi
  obtain ⟨n8, r8, rfl, w8, h9⟩ := h8.gi
  obtain ⟨n9, r9, rfl, h10⟩ := h9.gb
  obtain ⟨n10, r10, rfl, w10, h11⟩ := h10.gi
  obtain ⟨n11, r11, rfl, w11, h12⟩ := h11.gi
  obtain ⟨y12, r12, rfl, l12, w12, h13⟩ := h12.gl
  obtain ⟨n12, rfl, p12⟩ := WTL_map (f := eTNumberedPacket) (p := preTNumberedPacket) (fun _ h => wtTNumberedPacket h) w12
  obtain ⟨y13, r13, rfl, l13, w13, h14⟩ := h13.gl
  obtain ⟨n13, rfl, p13⟩ := WTL_map (f := eTPayload) (p := preTPayload) (fun _ h => wtTPayload h) w13
  obtain rfl := h14.gn
  exact ⟨⟨⟨⟨n0, n1⟩, n2, n3⟩, n4, n5, n6, n7, n8, n9, n10, ⟨n11, n12, n13⟩⟩, rfl, ⟨⟨by simpa using l12, p12⟩, ⟨by simpa using l13, p13⟩⟩⟩
def rngTDevice (a : TDevice) : Prop := rgI .i64 a.Card.ID.Network ∧ rgI .i64 a.Card.ID.Number ∧ rgI .i64 a.Card.Key ∧ rgI .i64 a.Card.LastSeq ∧ rgI .i64 a.State ∧ rgI .i64 a.Cell ∧ rgI .i64 a.Generation ∧ rgI .i64 a.RootKey ∧ rgI .i64 a.Epoch ∧ rgI .i64 a.Wait ∧ rgI .i64 a.Receiver.Next ∧ (∀ x ∈ a.Receiver.Pending, rngTNumberedPacket x) ∧ (∀ x ∈ a.Receiver.Delivered, rngTPayload x)
theorem rgTDevice {a : TDevice} (h0 : WTs [.i .i64, .i .i64, .i .i64, .i .i64, .i .i64, .i .i64, .i .i64, .i .i64, .i .i64, .b, .i .i64, .i .i64, .l [.i .i64, .l [.i .u8]], .l [.l [.i .u8]]] (eTDevice a)) : rngTDevice a := by
  unfold eTDevice at h0
  obtain ⟨c0, h1⟩ := h0.cut
  obtain ⟨c1, h2⟩ := h1.cut
  obtain ⟨c2, h3⟩ := h2.cut
  obtain ⟨c3, h4⟩ := h3.cut
  obtain ⟨c4, h5⟩ := h4.cut
  obtain ⟨c5, h6⟩ := h5.cut
  obtain ⟨c6, h7⟩ := h6.cut
  obtain ⟨c7, h8⟩ := h7.cut
  obtain ⟨c8, h9⟩ := h8.cut
  obtain ⟨c9, h10⟩ := h9.cut
  obtain ⟨c10, h11⟩ := h10.cut
  obtain ⟨c11, h12⟩ := h11.cut
  obtain ⟨c12, h13⟩ := h12.cut
  obtain ⟨c13, h14⟩ := h13.cut
  exact ⟨c0.rg, c1.rg, c2.rg, c3.rg, c4.rg, c5.rg, c6.rg, c7.rg, c8.rg, c10.rg, c11.rg, fun x hx => rgTNumberedPacket (c12.rl x hx), fun x hx => rgTPayload (c13.rl x hx)⟩
theorem psz_NumberedPacket : Sz lszNumberedPacket okTNumberedPacket preTNumberedPacket := by
  intro a left hp h0 h1
  unfold lszNumberedPacket
  obtain ⟨r0, a0, b0, c0⟩ := psz_ByteS a.Data left hp h0 h1
  rcases c0 with ⟨c0, rfl⟩ | ⟨c0, d0, e0⟩
  · exact ⟨-1, by simp [a0, c0], by omega, .inl ⟨c0, rfl⟩⟩
  exact ⟨r0, by simp [a0, c0], b0, .inr ⟨c0, d0, e0⟩⟩
theorem psz_NumberedPacketS : Sz lszNumberedPacketS (okL okTNumberedPacket) (preL preTNumberedPacket) := sz_list psz_NumberedPacket (fun _ _ => rfl) (fun _ _ _ => rfl)
theorem psz_Payload : Sz lszPayload okTPayload preTPayload := by
  intro a left hp h0 h1
  unfold lszPayload
  obtain ⟨r0, a0, b0, c0⟩ := psz_ByteS a.Data left hp h0 h1
  rcases c0 with ⟨c0, rfl⟩ | ⟨c0, d0, e0⟩
  · exact ⟨-1, by simp [a0, c0], by omega, .inl ⟨c0, rfl⟩⟩
  exact ⟨r0, by simp [a0, c0], b0, .inr ⟨c0, d0, e0⟩⟩
theorem psz_PayloadS : Sz lszPayloadS (okL okTPayload) (preL preTPayload) := sz_list psz_Payload (fun _ _ => rfl) (fun _ _ _ => rfl)
theorem psz_ReceiveWindow : Sz lszReceiveWindow okTReceiveWindow preTReceiveWindow := by
  intro a left hp h0 h1
  unfold lszReceiveWindow
  obtain ⟨r0, a0, b0, c0⟩ := psz_NumberedPacketS a.Pending left hp.1 h0 h1
  rcases c0 with ⟨c0, rfl⟩ | ⟨c0, d0, e0⟩
  · exact ⟨-1, by simp [a0, c0], by omega, .inl ⟨c0, rfl⟩⟩
  obtain ⟨r1, a1, b1, c1⟩ := psz_PayloadS a.Delivered r0 hp.2 d0 b0
  rcases c1 with ⟨c1, rfl⟩ | ⟨c1, d1, e1⟩
  · exact ⟨-1, by simp [a0, c0, a1, c1], by omega, .inl ⟨c1, rfl⟩⟩
  exact ⟨r1, by simp [a0, c0, a1, c1], b1, .inr ⟨c1, d1, e0, e1⟩⟩
theorem psz_Device : Sz lszDevice okTDevice preTDevice := by
  intro a left hp h0 h1
  unfold lszDevice
  obtain ⟨r0, a0, b0, c0⟩ := psz_ReceiveWindow a.Receiver left hp h0 h1
  rcases c0 with ⟨c0, rfl⟩ | ⟨c0, d0, e0⟩
  · exact ⟨-1, by simp [a0, c0], by omega, .inl ⟨c0, rfl⟩⟩
  exact ⟨r0, by simp [a0, c0], b0, .inr ⟨c0, d0, e0⟩⟩
theorem psz_DeviceS : Sz lszDeviceS (okL okTDevice) (preL preTDevice) := sz_list psz_Device (fun _ _ => rfl) (fun _ _ _ => rfl)
theorem pto_SubscriberID : ∀ a, (fun _ => True) a → ltoSubscriberID a = some a := fun a h => by simp [ltoSubscriberID]
theorem pto_USIM : ∀ a, (fun _ => True) a → ltoUSIM a = some a := fun a h => by simp [ltoUSIM, pto_SubscriberID _ trivial]
theorem pto_NumberedPacket : ∀ a, okTNumberedPacket a → ltoNumberedPacket a = some a := fun a h => by simp [ltoNumberedPacket, pto_ByteS _ h]
theorem pto_NumberedPacketS : ∀ xs, okL okTNumberedPacket xs → ltoNumberedPacketS xs = some xs := to_list (⟨0, []⟩ : TNumberedPacket) (by decide) pto_NumberedPacket (fun _ => rfl) (fun _ _ _ => rfl)
theorem pto_Payload : ∀ a, okTPayload a → ltoPayload a = some a := fun a h => by simp [ltoPayload, pto_ByteS _ h]
theorem pto_PayloadS : ∀ xs, okL okTPayload xs → ltoPayloadS xs = some xs := to_list (⟨[]⟩ : TPayload) (by decide) pto_Payload (fun _ => rfl) (fun _ _ _ => rfl)
theorem pto_ReceiveWindow : ∀ a, okTReceiveWindow a → ltoReceiveWindow a = some a := fun a h => by simp [ltoReceiveWindow, pto_NumberedPacketS _ h.1, pto_PayloadS _ h.2]
theorem pto_Device : ∀ a, okTDevice a → ltoDevice a = some a := fun a h => by simp [ltoDevice, pto_ReceiveWindow _ h, pto_USIM _ trivial]
theorem pto_DeviceS : ∀ xs, okL okTDevice xs → ltoDeviceS xs = some xs := to_list (⟨⟨⟨0, 0⟩, 0, 0⟩, 0, 0, 0, 0, 0, false, 0, ⟨0, [], []⟩⟩ : TDevice) (by decide) pto_Device (fun _ => rfl) (fun _ _ _ => rfl)
theorem peq_SubscriberID : ∀ a, (fun _ => True) a → leqSubscriberID a a = some true := fun a h => by simp [leqSubscriberID, eqB_refl, strB, booB]
theorem peq_USIM : ∀ a, (fun _ => True) a → leqUSIM a a = some true := fun a h => by simp [leqUSIM, eqB_refl, strB, booB, peq_SubscriberID _ trivial]
theorem peq_NumberedPacket : ∀ a, okTNumberedPacket a → leqNumberedPacket a a = some true := fun a h => by simp [leqNumberedPacket, eqB_refl, strB, booB, peq_ByteS _ h]
theorem peq_NumberedPacketS : ∀ xs, okL okTNumberedPacket xs → leqNumberedPacketS xs xs = some true := eq_list peq_NumberedPacket (fun _ _ => rfl) (fun _ _ _ => rfl)
theorem peq_Payload : ∀ a, okTPayload a → leqPayload a a = some true := fun a h => by simp [leqPayload, eqB_refl, strB, booB, peq_ByteS _ h]
theorem peq_PayloadS : ∀ xs, okL okTPayload xs → leqPayloadS xs xs = some true := eq_list peq_Payload (fun _ _ => rfl) (fun _ _ _ => rfl)
theorem peq_ReceiveWindow : ∀ a, okTReceiveWindow a → leqReceiveWindow a a = some true := fun a h => by simp [leqReceiveWindow, eqB_refl, strB, booB, peq_NumberedPacketS _ h.1, peq_PayloadS _ h.2]
theorem peq_Device : ∀ a, okTDevice a → leqDevice a a = some true := fun a h => by simp [leqDevice, eqB_refl, strB, booB, peq_ReceiveWindow _ h, peq_USIM _ trivial]
theorem peq_DeviceS : ∀ xs, okL okTDevice xs → leqDeviceS xs xs = some true := eq_list peq_Device (fun _ _ => rfl) (fun _ _ _ => rfl)
theorem pz_NumberedPacketS : Mk lmarkNumberedPacketS_z (okL okTNumberedPacket) 1099512676352 := by
  refine mk_list (L := lmarkNumberedPacketS_z_L1) (b := 1048577) (by decide) (by decide) (fun _ _ => rfl) (fun xs k => by simp [lmarkNumberedPacketS_z_L1, ltB_self]) (fun xs k i x hx hi hl hok h0 h1 => ?_)
  · skip
    obtain ⟨k0, e0, l0, u0⟩ := pz_ByteS x.Data (k + 1) hok (by omega) (by omega)
    refine ⟨k0, ?_, by omega, by omega⟩
    have hw : ∀ n : Int, 0 ≤ n → n ≤ 9223372036854775807 → WR n = n := fun n h h' => WR_in (by omega)
    simp (disch := omega) only [lmarkNumberedPacketS_z_L1, ltB_lt hi, ix_nat, hx, WR_succ (show i < 9223372036854775807 by omega), Option.bind_some, cond_true, hw, Int.add_assoc, Int.reduceAdd, e0]
theorem pz_PayloadS : Mk lmarkPayloadS_z (okL okTPayload) 1099511627776 := by
  refine mk_list (L := lmarkPayloadS_z_L1) (b := 1048576) (by decide) (by decide) (fun _ _ => rfl) (fun xs k => by simp [lmarkPayloadS_z_L1, ltB_self]) (fun xs k i x hx hi hl hok h0 h1 => ?_)
  · skip
    obtain ⟨k0, e0, l0, u0⟩ := pz_ByteS x.Data (k) hok (by omega) (by omega)
    refine ⟨k0, ?_, by omega, by omega⟩
    have hw : ∀ n : Int, 0 ≤ n → n ≤ 9223372036854775807 → WR n = n := fun n h h' => WR_in (by omega)
    simp (disch := omega) only [lmarkPayloadS_z_L1, ltB_lt hi, ix_nat, hx, WR_succ (show i < 9223372036854775807 by omega), Option.bind_some, cond_true, hw, Int.add_assoc, Int.reduceAdd, e0]
theorem pz_DeviceS : Mk lmarkDeviceS_z (okL okTDevice) 2305844108737904640 := by
  refine mk_list (L := lmarkDeviceS_z_L1) (b := 2199024304140) (by decide) (by decide) (fun _ _ => rfl) (fun xs k => by simp [lmarkDeviceS_z_L1, ltB_self]) (fun xs k i x hx hi hl hok h0 h1 => ?_)
  · skip
    obtain ⟨k0, e0, l0, u0⟩ := pz_NumberedPacketS x.Receiver.Pending (k + 12) hok.1 (by omega) (by omega)
    obtain ⟨k1, e1, l1, u1⟩ := pz_PayloadS x.Receiver.Delivered (k0) hok.2 (by omega) (by omega)
    refine ⟨k1, ?_, by omega, by omega⟩
    have hw : ∀ n : Int, 0 ≤ n → n ≤ 9223372036854775807 → WR n = n := fun n h h' => WR_in (by omega)
    simp (disch := omega) only [lmarkDeviceS_z_L1, ltB_lt hi, ix_nat, hx, WR_succ (show i < 9223372036854775807 by omega), Option.bind_some, cond_true, hw, Int.add_assoc, Int.reduceAdd, e0, e1]
theorem wtTSubscriberRecord {x : List D} (h0 : WTs [.i .i64, .i .i64, .i .i64, .i .i64] x) : ∃ a : TSubscriberRecord, x = eTSubscriberRecord a ∧ (fun _ => True) a := by
  obtain ⟨n0, r0, rfl, w0, h1⟩ := h0.gi
  obtain ⟨n1, r1, rfl, w1, h2⟩ := h1.gi
  obtain ⟨n2, r2, rfl, w2, h3⟩ := h2.gi
  obtain ⟨n3, r3, rfl, w3, h4⟩ := h3.gi
  obtain rfl := h4.gn
  exact ⟨⟨⟨n0, n1⟩, n2, n3⟩, rfl, trivial⟩
def rngTSubscriberRecord (a : TSubscriberRecord) : Prop := rgI .i64 a.ID.Network ∧ rgI .i64 a.ID.Number ∧ rgI .i64 a.Key ∧ rgI .i64 a.Seq
theorem rgTSubscriberRecord {a : TSubscriberRecord} (h0 : WTs [.i .i64, .i .i64, .i .i64, .i .i64] (eTSubscriberRecord a)) : rngTSubscriberRecord a := by
  unfold eTSubscriberRecord at h0
  obtain ⟨c0, h1⟩ := h0.cut
  obtain ⟨c1, h2⟩ := h1.cut
  obtain ⟨c2, h3⟩ := h2.cut
  obtain ⟨c3, h4⟩ := h3.cut
  exact ⟨c0.rg, c1.rg, c2.rg, c3.rg⟩
theorem wtTAuthVector {x : List D} (h0 : WTs [.i .i64, .i .i64, .i .i64, .i .i64, .i .i64] x) : ∃ a : TAuthVector, x = eTAuthVector a ∧ (fun _ => True) a := by
  obtain ⟨n0, r0, rfl, w0, h1⟩ := h0.gi
  obtain ⟨n1, r1, rfl, w1, h2⟩ := h1.gi
  obtain ⟨n2, r2, rfl, w2, h3⟩ := h2.gi
  obtain ⟨n3, r3, rfl, w3, h4⟩ := h3.gi
  obtain ⟨n4, r4, rfl, w4, h5⟩ := h4.gi
  obtain rfl := h5.gn
  exact ⟨⟨n0, n1, n2, n3, n4⟩, rfl, trivial⟩
def rngTAuthVector (a : TAuthVector) : Prop := rgI .i64 a.Rand ∧ rgI .i64 a.Autn ∧ rgI .i64 a.MAC ∧ rgI .i64 a.Res ∧ rgI .i64 a.Key
theorem rgTAuthVector {a : TAuthVector} (h0 : WTs [.i .i64, .i .i64, .i .i64, .i .i64, .i .i64] (eTAuthVector a)) : rngTAuthVector a := by
  unfold eTAuthVector at h0
  obtain ⟨c0, h1⟩ := h0.cut
  obtain ⟨c1, h2⟩ := h1.cut
  obtain ⟨c2, h3⟩ := h2.cut
  obtain ⟨c3, h4⟩ := h3.cut
  obtain ⟨c4, h5⟩ := h4.cut
  exact ⟨c0.rg, c1.rg, c2.rg, c3.rg, c4.rg⟩
theorem wtTPagingState {x : List D} (h0 : WTs [.i .i64, .i .i64, .i .i64] x) : ∃ a : TPagingState, x = eTPagingState a ∧ (fun _ => True) a := by
  obtain ⟨n0, r0, rfl, w0, h1⟩ := h0.gi
  obtain ⟨n1, r1, rfl, w1, h2⟩ := h1.gi
  obtain ⟨n2, r2, rfl, w2, h3⟩ := h2.gi
  obtain rfl := h3.gn
  exact ⟨⟨n0, n1, n2⟩, rfl, trivial⟩
def rngTPagingState (a : TPagingState) : Prop := rgI .i64 a.Area ∧ rgI .i64 a.Attempt ∧ rgI .i64 a.Wait
theorem rgTPagingState {a : TPagingState} (h0 : WTs [.i .i64, .i .i64, .i .i64] (eTPagingState a)) : rngTPagingState a := by
  unfold eTPagingState at h0
  obtain ⟨c0, h1⟩ := h0.cut
  obtain ⟨c1, h2⟩ := h1.cut
  obtain ⟨c2, h3⟩ := h2.cut
  exact ⟨c0.rg, c1.rg, c2.rg⟩
def okTSendWindow (a : TSendWindow) : Prop := okL okTNumberedPacket a.Unacked
def preTSendWindow (a : TSendWindow) : Prop := preL preTNumberedPacket a.Unacked
theorem wtTSendWindow {x : List D} (h0 : WTs [.i .i64, .l [.i .i64, .l [.i .u8]]] x) : ∃ a : TSendWindow, x = eTSendWindow a ∧ preTSendWindow a := by
  obtain ⟨n0, r0, rfl, w0, h1⟩ := h0.gi
  obtain ⟨y1, r1, rfl, l1, w1, h2⟩ := h1.gl
  obtain ⟨n1, rfl, p1⟩ := WTL_map (f := eTNumberedPacket) (p := preTNumberedPacket) (fun _ h => wtTNumberedPacket h) w1
  obtain rfl := h2.gn
  exact ⟨⟨n0, n1⟩, rfl, ⟨by simpa using l1, p1⟩⟩
def rngTSendWindow (a : TSendWindow) : Prop := rgI .i64 a.Next ∧ (∀ x ∈ a.Unacked, rngTNumberedPacket x)
theorem rgTSendWindow {a : TSendWindow} (h0 : WTs [.i .i64, .l [.i .i64, .l [.i .u8]]] (eTSendWindow a)) : rngTSendWindow a := by
  unfold eTSendWindow at h0
  obtain ⟨c0, h1⟩ := h0.cut
  obtain ⟨c1, h2⟩ := h1.cut
  exact ⟨c0.rg, fun x hx => rgTNumberedPacket (c1.rl x hx)⟩
theorem wtTQuota {x : List D} (h0 : WTs [.i .i64, .i .i64, .i .i64] x) : ∃ a : TQuota, x = eTQuota a ∧ (fun _ => True) a := by
  obtain ⟨n0, r0, rfl, w0, h1⟩ := h0.gi
  obtain ⟨n1, r1, rfl, w1, h2⟩ := h1.gi
  obtain ⟨n2, r2, rfl, w2, h3⟩ := h2.gi
  obtain rfl := h3.gn
  exact ⟨⟨n0, n1, n2⟩, rfl, trivial⟩
def rngTQuota (a : TQuota) : Prop := rgI .i64 a.SessionID ∧ rgI .i64 a.Granted ∧ rgI .i64 a.Used
theorem rgTQuota {a : TQuota} (h0 : WTs [.i .i64, .i .i64, .i .i64] (eTQuota a)) : rngTQuota a := by
  unfold eTQuota at h0
  obtain ⟨c0, h1⟩ := h0.cut
  obtain ⟨c1, h2⟩ := h1.cut
  obtain ⟨c2, h3⟩ := h2.cut
  exact ⟨c0.rg, c1.rg, c2.rg⟩
def okTSession (a : TSession) : Prop := okTSubscription a.Plan ∧ okL okTPayload a.Submitted ∧ okTSendWindow a.Window
def preTSession (a : TSession) : Prop := preTSubscription a.Plan ∧ preL preTPayload a.Submitted ∧ preTSendWindow a.Window
theorem wtTSession {x : List D} (h0 : WTs [.i .i64, .i .i64, .i .i64, .i .i64, .i .i64, .i .i64, .i .i64, .l [.i .i64], .i .i64, .i .i64, .i .i64, .i .i64, .i .i64, .i .i64, .i .i64, .i .i64, .i .i64, .i .i64, .i .i64, .i .i64, .i .i64, .i .i64, .i .i64, .l [.l [.i .u8]], .i .i64, .l [.i .i64, .l [.i .u8]], .i .i64, .i .i64, .i .i64, .i .i64] x) : ∃ a : TSession, x = eTSession a ∧ preTSession a := by
  obtain ⟨n0, r0, rfl, w0, h1⟩ := h0.gi
  obtain ⟨n1, r1, rfl, w1, h2⟩ := h1.gi
  obtain ⟨n2, r2, rfl, w2, h3⟩ := h2.gi
  obtain ⟨n3, r3, rfl, w3, h4⟩ := h3.gi
  obtain ⟨n4, r4, rfl, w4, h5⟩ := h4.gi
  obtain ⟨n5, r5, rfl, w5, h6⟩ := h5.gi
  obtain ⟨n6, r6, rfl, w6, h7⟩ := h6.gi
  obtain ⟨y7, r7, rfl, l7, w7, h8⟩ := h7.gl
  obtain ⟨n7, rfl, p7⟩ := WTL_map (f := eI) (p := (fun _ => True)) (fun x h => by obtain ⟨n, r, rfl, w, h⟩ := h.gi; obtain rfl := h.gn; exact ⟨n, rfl, trivial⟩) w7
  obtain ⟨n8, r8, rfl, w8, h9⟩ := h8.gi
  obtain ⟨n9, r9, rfl, w9, h10⟩ := h9.gi
  obtain ⟨n10, r10, rfl, w10, h11⟩ := h10.gi
  obtain ⟨n11, r11, rfl, w11, h12⟩ := h11.gi
  obtain ⟨n12, r12, rfl, w12, h13⟩ := h12.gi
  obtain ⟨n13, r13, rfl, w13, h14⟩ := h13.gi
  obtain ⟨n14, r14, rfl, w14, h15⟩ := h14.gi
  obtain ⟨n15, r15, rfl, w15, h16⟩ := h15.gi
  obtain ⟨n16, r16, rfl, w16, h17⟩ := h16.gi
  obtain ⟨n17, r17, rfl, w17, h18⟩ := h17.gi
  obtain ⟨n18, r18, rfl, w18, h19⟩ := h18.gi
  obtain ⟨n19, r19, rfl, w19, h20⟩ := h19.gi
  obtain ⟨n20, r20, rfl, w20, h21⟩ := h20.gi
  obtain ⟨n21, r21, rfl, w21, h22⟩ := h21.gi
  obtain ⟨n22, r22, rfl, w22, h23⟩ := h22.gi
  obtain ⟨y23, r23, rfl, l23, w23, h24⟩ := h23.gl
  obtain ⟨n23, rfl, p23⟩ := WTL_map (f := eTPayload) (p := preTPayload) (fun _ h => wtTPayload h) w23
  obtain ⟨n24, r24, rfl, w24, h25⟩ := h24.gi
  obtain ⟨y25, r25, rfl, l25, w25, h26⟩ := h25.gl
  obtain ⟨n25, rfl, p25⟩ := WTL_map (f := eTNumberedPacket) (p := preTNumberedPacket) (fun _ h => wtTNumberedPacket h) w25
  obtain ⟨n26, r26, rfl, w26, h27⟩ := h26.gi
  obtain ⟨n27, r27, rfl, w27, h28⟩ := h27.gi
  obtain ⟨n28, r28, rfl, w28, h29⟩ := h28.gi
  obtain ⟨n29, r29, rfl, w29, h30⟩ := h29.gi
  obtain rfl := h30.gn
  exact ⟨⟨⟨⟨n0, n1⟩, n2, n3⟩, ⟨n4, n5, n6, n7⟩, n8, ⟨n9, n10, n11, n12, n13⟩, n14, n15, n16, n17, n18, n19, ⟨n20, n21, n22⟩, n23, ⟨n24, n25⟩, n26, ⟨n27, n28, n29⟩⟩, rfl, ⟨⟨by simpa using l7, p7⟩, ⟨by simpa using l23, p23⟩, ⟨by simpa using l25, p25⟩⟩⟩
def rngTSession (a : TSession) : Prop := rgI .i64 a.Record.ID.Network ∧ rgI .i64 a.Record.ID.Number ∧ rgI .i64 a.Record.Key ∧ rgI .i64 a.Record.Seq ∧ rgI .i64 a.Plan.RateLimit ∧ rgI .i64 a.Plan.BestClass ∧ rgI .i64 a.Plan.GrantSize ∧ (∀ x ∈ a.Plan.RoamingNetworks, rgI .i64 x) ∧ rgI .i64 a.State ∧ rgI .i64 a.Pending.Rand ∧ rgI .i64 a.Pending.Autn ∧ rgI .i64 a.Pending.MAC ∧ rgI .i64 a.Pending.Res ∧ rgI .i64 a.Pending.Key ∧ rgI .i64 a.PendingSeq ∧ rgI .i64 a.Generation ∧ rgI .i64 a.RootKey ∧ rgI .i64 a.Epoch ∧ rgI .i64 a.Cell ∧ rgI .i64 a.Quiet ∧ rgI .i64 a.Page.Area ∧ rgI .i64 a.Page.Attempt ∧ rgI .i64 a.Page.Wait ∧ (∀ x ∈ a.Submitted, rngTPayload x) ∧ rgI .i64 a.Window.Next ∧ (∀ x ∈ a.Window.Unacked, rngTNumberedPacket x) ∧ rgI .i64 a.Retry ∧ rgI .i64 a.Usage.SessionID ∧ rgI .i64 a.Usage.Granted ∧ rgI .i64 a.Usage.Used
theorem rgTSession {a : TSession} (h0 : WTs [.i .i64, .i .i64, .i .i64, .i .i64, .i .i64, .i .i64, .i .i64, .l [.i .i64], .i .i64, .i .i64, .i .i64, .i .i64, .i .i64, .i .i64, .i .i64, .i .i64, .i .i64, .i .i64, .i .i64, .i .i64, .i .i64, .i .i64, .i .i64, .l [.l [.i .u8]], .i .i64, .l [.i .i64, .l [.i .u8]], .i .i64, .i .i64, .i .i64, .i .i64] (eTSession a)) : rngTSession a := by
  unfold eTSession at h0
  obtain ⟨c0, h1⟩ := h0.cut
  obtain ⟨c1, h2⟩ := h1.cut
  obtain ⟨c2, h3⟩ := h2.cut
  obtain ⟨c3, h4⟩ := h3.cut
  obtain ⟨c4, h5⟩ := h4.cut
  obtain ⟨c5, h6⟩ := h5.cut
  obtain ⟨c6, h7⟩ := h6.cut
  obtain ⟨c7, h8⟩ := h7.cut
  obtain ⟨c8, h9⟩ := h8.cut
  obtain ⟨c9, h10⟩ := h9.cut
  obtain ⟨c10, h11⟩ := h10.cut
  obtain ⟨c11, h12⟩ := h11.cut
  obtain ⟨c12, h13⟩ := h12.cut
  obtain ⟨c13, h14⟩ := h13.cut
  obtain ⟨c14, h15⟩ := h14.cut
  obtain ⟨c15, h16⟩ := h15.cut
  obtain ⟨c16, h17⟩ := h16.cut
  obtain ⟨c17, h18⟩ := h17.cut
  obtain ⟨c18, h19⟩ := h18.cut
  obtain ⟨c19, h20⟩ := h19.cut
  obtain ⟨c20, h21⟩ := h20.cut
  obtain ⟨c21, h22⟩ := h21.cut
  obtain ⟨c22, h23⟩ := h22.cut
  obtain ⟨c23, h24⟩ := h23.cut
  obtain ⟨c24, h25⟩ := h24.cut
  obtain ⟨c25, h26⟩ := h25.cut
  obtain ⟨c26, h27⟩ := h26.cut
  obtain ⟨c27, h28⟩ := h27.cut
  obtain ⟨c28, h29⟩ := h28.cut
  obtain ⟨c29, h30⟩ := h29.cut
  exact ⟨c0.rg, c1.rg, c2.rg, c3.rg, c4.rg, c5.rg, c6.rg, fun x hx => (WTs.cut (c7.rl x hx)).1.rg, c8.rg, c9.rg, c10.rg, c11.rg, c12.rg, c13.rg, c14.rg, c15.rg, c16.rg, c17.rg, c18.rg, c19.rg, c20.rg, c21.rg, c22.rg, fun x hx => rgTPayload (c23.rl x hx), c24.rg, fun x hx => rgTNumberedPacket (c25.rl x hx), c26.rg, c27.rg, c28.rg, c29.rg⟩
theorem psz_SendWindow : Sz lszSendWindow okTSendWindow preTSendWindow := by
  intro a left hp h0 h1
  unfold lszSendWindow
  obtain ⟨r0, a0, b0, c0⟩ := psz_NumberedPacketS a.Unacked left hp h0 h1
  rcases c0 with ⟨c0, rfl⟩ | ⟨c0, d0, e0⟩
  · exact ⟨-1, by simp [a0, c0], by omega, .inl ⟨c0, rfl⟩⟩
  exact ⟨r0, by simp [a0, c0], b0, .inr ⟨c0, d0, e0⟩⟩
theorem psz_Session : Sz lszSession okTSession preTSession := by
  intro a left hp h0 h1
  unfold lszSession
  obtain ⟨r0, a0, b0, c0⟩ := psz_Subscription a.Plan left hp.1 h0 h1
  rcases c0 with ⟨c0, rfl⟩ | ⟨c0, d0, e0⟩
  · exact ⟨-1, by simp [a0, c0], by omega, .inl ⟨c0, rfl⟩⟩
  obtain ⟨r1, a1, b1, c1⟩ := psz_PayloadS a.Submitted r0 hp.2.1 d0 b0
  rcases c1 with ⟨c1, rfl⟩ | ⟨c1, d1, e1⟩
  · exact ⟨-1, by simp [a0, c0, a1, c1], by omega, .inl ⟨c1, rfl⟩⟩
  obtain ⟨r2, a2, b2, c2⟩ := psz_SendWindow a.Window r1 hp.2.2 d1 b1
  rcases c2 with ⟨c2, rfl⟩ | ⟨c2, d2, e2⟩
  · exact ⟨-1, by simp [a0, c0, a1, c1, a2, c2], by omega, .inl ⟨c2, rfl⟩⟩
  exact ⟨r2, by simp [a0, c0, a1, c1, a2, c2], b2, .inr ⟨c2, d2, e0, e1, e2⟩⟩
theorem psz_SessionS : Sz lszSessionS (okL okTSession) (preL preTSession) := sz_list psz_Session (fun _ _ => rfl) (fun _ _ _ => rfl)
theorem pto_SubscriberRecord : ∀ a, (fun _ => True) a → ltoSubscriberRecord a = some a := fun a h => by simp [ltoSubscriberRecord, pto_SubscriberID _ trivial]
theorem pto_AuthVector : ∀ a, (fun _ => True) a → ltoAuthVector a = some a := fun a h => by simp [ltoAuthVector]
theorem pto_PagingState : ∀ a, (fun _ => True) a → ltoPagingState a = some a := fun a h => by simp [ltoPagingState]
theorem pto_SendWindow : ∀ a, okTSendWindow a → ltoSendWindow a = some a := fun a h => by simp [ltoSendWindow, pto_NumberedPacketS _ h]
theorem pto_Quota : ∀ a, (fun _ => True) a → ltoQuota a = some a := fun a h => by simp [ltoQuota]
theorem pto_Session : ∀ a, okTSession a → ltoSession a = some a := fun a h => by simp [ltoSession, pto_Subscription _ h.1, pto_PayloadS _ h.2.1, pto_SendWindow _ h.2.2, pto_SubscriberRecord _ trivial, pto_AuthVector _ trivial, pto_PagingState _ trivial, pto_Quota _ trivial]
theorem pto_SessionS : ∀ xs, okL okTSession xs → ltoSessionS xs = some xs := to_list (⟨⟨⟨0, 0⟩, 0, 0⟩, ⟨0, 0, 0, []⟩, 0, ⟨0, 0, 0, 0, 0⟩, 0, 0, 0, 0, 0, 0, ⟨0, 0, 0⟩, [], ⟨0, []⟩, 0, ⟨0, 0, 0⟩⟩ : TSession) (by decide) pto_Session (fun _ => rfl) (fun _ _ _ => rfl)
theorem peq_SubscriberRecord : ∀ a, (fun _ => True) a → leqSubscriberRecord a a = some true := fun a h => by simp [leqSubscriberRecord, eqB_refl, strB, booB, peq_SubscriberID _ trivial]
theorem peq_AuthVector : ∀ a, (fun _ => True) a → leqAuthVector a a = some true := fun a h => by simp [leqAuthVector, eqB_refl, strB, booB]
theorem peq_PagingState : ∀ a, (fun _ => True) a → leqPagingState a a = some true := fun a h => by simp [leqPagingState, eqB_refl, strB, booB]
theorem peq_SendWindow : ∀ a, okTSendWindow a → leqSendWindow a a = some true := fun a h => by simp [leqSendWindow, eqB_refl, strB, booB, peq_NumberedPacketS _ h]
theorem peq_Quota : ∀ a, (fun _ => True) a → leqQuota a a = some true := fun a h => by simp [leqQuota, eqB_refl, strB, booB]
theorem peq_Session : ∀ a, okTSession a → leqSession a a = some true := fun a h => by simp [leqSession, eqB_refl, strB, booB, peq_Subscription _ h.1, peq_PayloadS _ h.2.1, peq_SendWindow _ h.2.2, peq_SubscriberRecord _ trivial, peq_AuthVector _ trivial, peq_PagingState _ trivial, peq_Quota _ trivial]
theorem peq_SessionS : ∀ xs, okL okTSession xs → leqSessionS xs xs = some true := eq_list peq_Session (fun _ _ => rfl) (fun _ _ _ => rfl)
theorem pz_SessionS : Mk lmarkSessionS_z (okL okTSession) 2305845208265261056 := by
  refine mk_list (L := lmarkSessionS_z_L1) (b := 2199025352731) (by decide) (by decide) (fun _ _ => rfl) (fun xs k => by simp [lmarkSessionS_z_L1, ltB_self]) (fun xs k i x hx hi hl hok h0 h1 => ?_)
  · skip
    obtain ⟨k0, e0, l0, u0⟩ := pz_IntS x.Plan.RoamingNetworks (k + 7) hok.1 (by omega) (by omega)
    obtain ⟨k1, e1, l1, u1⟩ := pz_PayloadS x.Submitted (k0 + 15) hok.2.1 (by omega) (by omega)
    obtain ⟨k2, e2, l2, u2⟩ := pz_NumberedPacketS x.Window.Unacked (k1 + 1) hok.2.2 (by omega) (by omega)
    refine ⟨k2 + 4, ?_, by omega, by omega⟩
    have hw : ∀ n : Int, 0 ≤ n → n ≤ 9223372036854775807 → WR n = n := fun n h h' => WR_in (by omega)
    simp (disch := omega) only [lmarkSessionS_z_L1, ltB_lt hi, ix_nat, hx, WR_succ (show i < 9223372036854775807 by omega), Option.bind_some, cond_true, hw, Int.add_assoc, Int.reduceAdd, e0, e1, e2]
theorem wtTReservation {x : List D} (h0 : WTs [.i .i64, .i .i64] x) : ∃ a : TReservation, x = eTReservation a ∧ (fun _ => True) a := by
  obtain ⟨n0, r0, rfl, w0, h1⟩ := h0.gi
  obtain ⟨n1, r1, rfl, w1, h2⟩ := h1.gi
  obtain rfl := h2.gn
  exact ⟨⟨n0, n1⟩, rfl, trivial⟩
def rngTReservation (a : TReservation) : Prop := rgI .i64 a.SessionID ∧ rgI .i64 a.Amount
theorem rgTReservation {a : TReservation} (h0 : WTs [.i .i64, .i .i64] (eTReservation a)) : rngTReservation a := by
  unfold eTReservation at h0
  obtain ⟨c0, h1⟩ := h0.cut
  obtain ⟨c1, h2⟩ := h1.cut
  exact ⟨c0.rg, c1.rg⟩
def okTAccount (a : TAccount) : Prop := okL (fun _ => True) a.Reservations
def preTAccount (a : TAccount) : Prop := preL (fun _ => True) a.Reservations
theorem wtTAccount {x : List D} (h0 : WTs [.i .i64, .i .i64, .i .i64, .l [.i .i64, .i .i64]] x) : ∃ a : TAccount, x = eTAccount a ∧ preTAccount a := by
  obtain ⟨n0, r0, rfl, w0, h1⟩ := h0.gi
  obtain ⟨n1, r1, rfl, w1, h2⟩ := h1.gi
  obtain ⟨n2, r2, rfl, w2, h3⟩ := h2.gi
  obtain ⟨y3, r3, rfl, l3, w3, h4⟩ := h3.gl
  obtain ⟨n3, rfl, p3⟩ := WTL_map (f := eTReservation) (p := (fun _ => True)) (fun _ h => wtTReservation h) w3
  obtain rfl := h4.gn
  exact ⟨⟨n0, n1, n2, n3⟩, rfl, ⟨by simpa using l3, p3⟩⟩
def rngTAccount (a : TAccount) : Prop := rgI .i64 a.Total ∧ rgI .i64 a.Available ∧ rgI .i64 a.Spent ∧ (∀ x ∈ a.Reservations, rngTReservation x)
theorem rgTAccount {a : TAccount} (h0 : WTs [.i .i64, .i .i64, .i .i64, .l [.i .i64, .i .i64]] (eTAccount a)) : rngTAccount a := by
  unfold eTAccount at h0
  obtain ⟨c0, h1⟩ := h0.cut
  obtain ⟨c1, h2⟩ := h1.cut
  obtain ⟨c2, h3⟩ := h2.cut
  obtain ⟨c3, h4⟩ := h3.cut
  exact ⟨c0.rg, c1.rg, c2.rg, fun x hx => rgTReservation (c3.rl x hx)⟩
theorem psz_ReservationS : Sz lszReservationS (okL (fun _ => True)) (preL (fun _ => True)) := sz_flat (fun _ _ => rfl)
theorem psz_Account : Sz lszAccount okTAccount preTAccount := by
  intro a left hp h0 h1
  unfold lszAccount
  obtain ⟨r0, a0, b0, c0⟩ := psz_ReservationS a.Reservations left hp h0 h1
  rcases c0 with ⟨c0, rfl⟩ | ⟨c0, d0, e0⟩
  · exact ⟨-1, by simp [a0, c0], by omega, .inl ⟨c0, rfl⟩⟩
  exact ⟨r0, by simp [a0, c0], b0, .inr ⟨c0, d0, e0⟩⟩
theorem psz_AccountS : Sz lszAccountS (okL okTAccount) (preL preTAccount) := sz_list psz_Account (fun _ _ => rfl) (fun _ _ _ => rfl)
theorem pto_Reservation : ∀ a, (fun _ => True) a → ltoReservation a = some a := fun a h => by simp [ltoReservation]
theorem pto_ReservationS : ∀ xs, okL (fun _ => True) xs → ltoReservationS xs = some xs := to_list (⟨0, 0⟩ : TReservation) (by decide) pto_Reservation (fun _ => rfl) (fun _ _ _ => rfl)
theorem pto_Account : ∀ a, okTAccount a → ltoAccount a = some a := fun a h => by simp [ltoAccount, pto_ReservationS _ h]
theorem pto_AccountS : ∀ xs, okL okTAccount xs → ltoAccountS xs = some xs := to_list (⟨0, 0, 0, []⟩ : TAccount) (by decide) pto_Account (fun _ => rfl) (fun _ _ _ => rfl)
theorem peq_Reservation : ∀ a, (fun _ => True) a → leqReservation a a = some true := fun a h => by simp [leqReservation, eqB_refl, strB, booB]
theorem peq_ReservationS : ∀ xs, okL (fun _ => True) xs → leqReservationS xs xs = some true := eq_list peq_Reservation (fun _ _ => rfl) (fun _ _ _ => rfl)
theorem peq_Account : ∀ a, okTAccount a → leqAccount a a = some true := fun a h => by simp [leqAccount, eqB_refl, strB, booB, peq_ReservationS _ h]
theorem peq_AccountS : ∀ xs, okL okTAccount xs → leqAccountS xs xs = some true := eq_list peq_Account (fun _ _ => rfl) (fun _ _ _ => rfl)
theorem pz_ReservationS : Mk lmarkReservationS_z (okL (fun _ => True)) 2097152 := by
  refine mk_list (L := lmarkReservationS_z_L1) (b := 2) (by decide) (by decide) (fun _ _ => rfl) (fun xs k => by simp [lmarkReservationS_z_L1, ltB_self]) (fun xs k i x hx hi hl hok h0 h1 => ?_)
  · skip
    refine ⟨k + 2, ?_, by omega, by omega⟩
    have hw : ∀ n : Int, 0 ≤ n → n ≤ 9223372036854775807 → WR n = n := fun n h h' => WR_in (by omega)
    simp (disch := omega) only [lmarkReservationS_z_L1, ltB_lt hi, ix_nat, hx, WR_succ (show i < 9223372036854775807 by omega), Option.bind_some, cond_true, hw, Int.add_assoc, Int.reduceAdd]
theorem pz_AccountS : Mk lmarkAccountS_z (okL okTAccount) 2199026401280 := by
  refine mk_list (L := lmarkAccountS_z_L1) (b := 2097155) (by decide) (by decide) (fun _ _ => rfl) (fun xs k => by simp [lmarkAccountS_z_L1, ltB_self]) (fun xs k i x hx hi hl hok h0 h1 => ?_)
  · skip
    obtain ⟨k0, e0, l0, u0⟩ := pz_ReservationS x.Reservations (k + 3) hok (by omega) (by omega)
    refine ⟨k0, ?_, by omega, by omega⟩
    have hw : ∀ n : Int, 0 ≤ n → n ≤ 9223372036854775807 → WR n = n := fun n h h' => WR_in (by omega)
    simp (disch := omega) only [lmarkAccountS_z_L1, ltB_lt hi, ix_nat, hx, WR_succ (show i < 9223372036854775807 by omega), Option.bind_some, cond_true, hw, Int.add_assoc, Int.reduceAdd, e0]
theorem wtTSignal {x : List D} (h0 : WTs [.i .i64, .i .i64, .i .i64, .i .i64, .i .i64, .i .i64, .i .i64, .i .i64, .i .i64, .i .i64, .i .i64] x) : ∃ a : TSignal, x = eTSignal a ∧ (fun _ => True) a := by
  obtain ⟨n0, r0, rfl, w0, h1⟩ := h0.gi
  obtain ⟨n1, r1, rfl, w1, h2⟩ := h1.gi
  obtain ⟨n2, r2, rfl, w2, h3⟩ := h2.gi
  obtain ⟨n3, r3, rfl, w3, h4⟩ := h3.gi
  obtain ⟨n4, r4, rfl, w4, h5⟩ := h4.gi
  obtain ⟨n5, r5, rfl, w5, h6⟩ := h5.gi
  obtain ⟨n6, r6, rfl, w6, h7⟩ := h6.gi
  obtain ⟨n7, r7, rfl, w7, h8⟩ := h7.gi
  obtain ⟨n8, r8, rfl, w8, h9⟩ := h8.gi
  obtain ⟨n9, r9, rfl, w9, h10⟩ := h9.gi
  obtain ⟨n10, r10, rfl, w10, h11⟩ := h10.gi
  obtain rfl := h11.gn
  exact ⟨⟨n0, n1, n2, n3, n4, ⟨n5, n6, n7, n8, n9⟩, n10⟩, rfl, trivial⟩
def rngTSignal (a : TSignal) : Prop := rgI .i64 a.Kind ∧ rgI .i64 a.Cell ∧ rgI .i64 a.Generation ∧ rgI .i64 a.Epoch ∧ rgI .i64 a.Number ∧ rgI .i64 a.Vector.Rand ∧ rgI .i64 a.Vector.Autn ∧ rgI .i64 a.Vector.MAC ∧ rgI .i64 a.Vector.Res ∧ rgI .i64 a.Vector.Key ∧ rgI .i64 a.MAC
theorem rgTSignal {a : TSignal} (h0 : WTs [.i .i64, .i .i64, .i .i64, .i .i64, .i .i64, .i .i64, .i .i64, .i .i64, .i .i64, .i .i64, .i .i64] (eTSignal a)) : rngTSignal a := by
  unfold eTSignal at h0
  obtain ⟨c0, h1⟩ := h0.cut
  obtain ⟨c1, h2⟩ := h1.cut
  obtain ⟨c2, h3⟩ := h2.cut
  obtain ⟨c3, h4⟩ := h3.cut
  obtain ⟨c4, h5⟩ := h4.cut
  obtain ⟨c5, h6⟩ := h5.cut
  obtain ⟨c6, h7⟩ := h6.cut
  obtain ⟨c7, h8⟩ := h7.cut
  obtain ⟨c8, h9⟩ := h8.cut
  obtain ⟨c9, h10⟩ := h9.cut
  obtain ⟨c10, h11⟩ := h10.cut
  exact ⟨c0.rg, c1.rg, c2.rg, c3.rg, c4.rg, c5.rg, c6.rg, c7.rg, c8.rg, c9.rg, c10.rg⟩
def okTSecuredMessage (a : TSecuredMessage) : Prop := okL (fun _ => True) a.Data
def preTSecuredMessage (a : TSecuredMessage) : Prop := preL okU8 a.Data
theorem wtTSecuredMessage {x : List D} (h0 : WTs [.i .i64, .i .i64, .l [.i .u8], .i .i64] x) : ∃ a : TSecuredMessage, x = eTSecuredMessage a ∧ preTSecuredMessage a := by
  obtain ⟨n0, r0, rfl, w0, h1⟩ := h0.gi
  obtain ⟨n1, r1, rfl, w1, h2⟩ := h1.gi
  obtain ⟨y2, r2, rfl, l2, w2, h3⟩ := h2.gl
  obtain ⟨n2, rfl, p2⟩ := WTL_map (f := eU8) (p := okU8) (fun x h => by obtain ⟨n, r, rfl, w, h⟩ := h.gi; obtain rfl := h.gn; exact ⟨n, rfl, wf_u8 w⟩) w2
  obtain ⟨n3, r3, rfl, w3, h4⟩ := h3.gi
  obtain rfl := h4.gn
  exact ⟨⟨n0, n1, n2, n3⟩, rfl, ⟨by simpa using l2, p2⟩⟩
def rngTSecuredMessage (a : TSecuredMessage) : Prop := rgI .i64 a.Direction ∧ rgI .i64 a.Count ∧ (∀ x ∈ a.Data, rgI .u8 x) ∧ rgI .i64 a.MAC
theorem rgTSecuredMessage {a : TSecuredMessage} (h0 : WTs [.i .i64, .i .i64, .l [.i .u8], .i .i64] (eTSecuredMessage a)) : rngTSecuredMessage a := by
  unfold eTSecuredMessage at h0
  obtain ⟨c0, h1⟩ := h0.cut
  obtain ⟨c1, h2⟩ := h1.cut
  obtain ⟨c2, h3⟩ := h2.cut
  obtain ⟨c3, h4⟩ := h3.cut
  exact ⟨c0.rg, c1.rg, fun x hx => (WTs.cut (c2.rl x hx)).1.rg, c3.rg⟩
def okTRadioPacket (a : TRadioPacket) : Prop := okTSecuredMessage a.Message
def preTRadioPacket (a : TRadioPacket) : Prop := preTSecuredMessage a.Message
theorem wtTRadioPacket {x : List D} (h0 : WTs [.i .i64, .i .i64, .i .i64, .i .i64, .l [.i .u8], .i .i64] x) : ∃ a : TRadioPacket, x = eTRadioPacket a ∧ preTRadioPacket a := by
  obtain ⟨n0, r0, rfl, w0, h1⟩ := h0.gi
  obtain ⟨n1, r1, rfl, w1, h2⟩ := h1.gi
  obtain ⟨n2, r2, rfl, w2, h3⟩ := h2.gi
  obtain ⟨n3, r3, rfl, w3, h4⟩ := h3.gi
  obtain ⟨y4, r4, rfl, l4, w4, h5⟩ := h4.gl
  obtain ⟨n4, rfl, p4⟩ := WTL_map (f := eU8) (p := okU8) (fun x h => by obtain ⟨n, r, rfl, w, h⟩ := h.gi; obtain rfl := h.gn; exact ⟨n, rfl, wf_u8 w⟩) w4
  obtain ⟨n5, r5, rfl, w5, h6⟩ := h5.gi
  obtain rfl := h6.gn
  exact ⟨⟨n0, n1, ⟨n2, n3, n4, n5⟩⟩, rfl, ⟨by simpa using l4, p4⟩⟩
def rngTRadioPacket (a : TRadioPacket) : Prop := rgI .i64 a.Generation ∧ rgI .i64 a.Epoch ∧ rgI .i64 a.Message.Direction ∧ rgI .i64 a.Message.Count ∧ (∀ x ∈ a.Message.Data, rgI .u8 x) ∧ rgI .i64 a.Message.MAC
theorem rgTRadioPacket {a : TRadioPacket} (h0 : WTs [.i .i64, .i .i64, .i .i64, .i .i64, .l [.i .u8], .i .i64] (eTRadioPacket a)) : rngTRadioPacket a := by
  unfold eTRadioPacket at h0
  obtain ⟨c0, h1⟩ := h0.cut
  obtain ⟨c1, h2⟩ := h1.cut
  obtain ⟨c2, h3⟩ := h2.cut
  obtain ⟨c3, h4⟩ := h3.cut
  obtain ⟨c4, h5⟩ := h4.cut
  obtain ⟨c5, h6⟩ := h5.cut
  exact ⟨c0.rg, c1.rg, c2.rg, c3.rg, fun x hx => (WTs.cut (c4.rl x hx)).1.rg, c5.rg⟩
def okTFlight (a : TFlight) : Prop := okTRadioPacket a.Radio
def preTFlight (a : TFlight) : Prop := preTRadioPacket a.Radio
theorem wtTFlight {x : List D} (h0 : WTs [.i .i64, .b, .b, .i .i64, .i .i64, .i .i64, .i .i64, .i .i64, .i .i64, .i .i64, .i .i64, .i .i64, .i .i64, .i .i64, .i .i64, .i .i64, .i .i64, .i .i64, .i .i64, .l [.i .u8], .i .i64] x) : ∃ a : TFlight, x = eTFlight a ∧ preTFlight a := by
  obtain ⟨n0, r0, rfl, w0, h1⟩ := h0.gi
  obtain ⟨n1, r1, rfl, h2⟩ := h1.gb
  obtain ⟨n2, r2, rfl, h3⟩ := h2.gb
  obtain ⟨n3, r3, rfl, w3, h4⟩ := h3.gi
  obtain ⟨n4, r4, rfl, w4, h5⟩ := h4.gi
  obtain ⟨n5, r5, rfl, w5, h6⟩ := h5.gi
  obtain ⟨n6, r6, rfl, w6, h7⟩ := h6.gi
  obtain ⟨n7, r7, rfl, w7, h8⟩ := h7.gi
  obtain ⟨n8, r8, rfl, w8, h9⟩ := h8.gi
  obtain ⟨n9, r9, rfl, w9, h10⟩ := h9.gi
  obtain ⟨n10, r10, rfl, w10, h11⟩ := h10.gi
  obtain ⟨n11, r11, rfl, w11, h12⟩ := h11.gi
  obtain ⟨n12, r12, rfl, w12, h13⟩ := h12.gi
  obtain ⟨n13, r13, rfl, w13, h14⟩ := h13.gi
  obtain ⟨n14, r14, rfl, w14, h15⟩ := h14.gi
  obtain ⟨n15, r15, rfl, w15, h16⟩ := h15.gi
  obtain ⟨n16, r16, rfl, w16, h17⟩ := h16.gi
  obtain ⟨n17, r17, rfl, w17, h18⟩ := h17.gi
  obtain ⟨n18, r18, rfl, w18, h19⟩ := h18.gi
  obtain ⟨y19, r19, rfl, l19, w19, h20⟩ := h19.gl
  obtain ⟨n19, rfl, p19⟩ := WTL_map (f := eU8) (p := okU8) (fun x h => by obtain ⟨n, r, rfl, w, h⟩ := h.gi; obtain rfl := h.gn; exact ⟨n, rfl, wf_u8 w⟩) w19
  obtain ⟨n20, r20, rfl, w20, h21⟩ := h20.gi
  obtain rfl := h21.gn
  exact ⟨⟨n0, n1, n2, n3, ⟨n4, n5, n6, n7, n8, ⟨n9, n10, n11, n12, n13⟩, n14⟩, ⟨n15, n16, ⟨n17, n18, n19, n20⟩⟩⟩, rfl, ⟨by simpa using l19, p19⟩⟩
def rngTFlight (a : TFlight) : Prop := rgI .i64 a.Device ∧ rgI .i64 a.Cell ∧ rgI .i64 a.Signal.Kind ∧ rgI .i64 a.Signal.Cell ∧ rgI .i64 a.Signal.Generation ∧ rgI .i64 a.Signal.Epoch ∧ rgI .i64 a.Signal.Number ∧ rgI .i64 a.Signal.Vector.Rand ∧ rgI .i64 a.Signal.Vector.Autn ∧ rgI .i64 a.Signal.Vector.MAC ∧ rgI .i64 a.Signal.Vector.Res ∧ rgI .i64 a.Signal.Vector.Key ∧ rgI .i64 a.Signal.MAC ∧ rgI .i64 a.Radio.Generation ∧ rgI .i64 a.Radio.Epoch ∧ rgI .i64 a.Radio.Message.Direction ∧ rgI .i64 a.Radio.Message.Count ∧ (∀ x ∈ a.Radio.Message.Data, rgI .u8 x) ∧ rgI .i64 a.Radio.Message.MAC
theorem rgTFlight {a : TFlight} (h0 : WTs [.i .i64, .b, .b, .i .i64, .i .i64, .i .i64, .i .i64, .i .i64, .i .i64, .i .i64, .i .i64, .i .i64, .i .i64, .i .i64, .i .i64, .i .i64, .i .i64, .i .i64, .i .i64, .l [.i .u8], .i .i64] (eTFlight a)) : rngTFlight a := by
  unfold eTFlight at h0
  obtain ⟨c0, h1⟩ := h0.cut
  obtain ⟨c1, h2⟩ := h1.cut
  obtain ⟨c2, h3⟩ := h2.cut
  obtain ⟨c3, h4⟩ := h3.cut
  obtain ⟨c4, h5⟩ := h4.cut
  obtain ⟨c5, h6⟩ := h5.cut
  obtain ⟨c6, h7⟩ := h6.cut
  obtain ⟨c7, h8⟩ := h7.cut
  obtain ⟨c8, h9⟩ := h8.cut
  obtain ⟨c9, h10⟩ := h9.cut
  obtain ⟨c10, h11⟩ := h10.cut
  obtain ⟨c11, h12⟩ := h11.cut
  obtain ⟨c12, h13⟩ := h12.cut
  obtain ⟨c13, h14⟩ := h13.cut
  obtain ⟨c14, h15⟩ := h14.cut
  obtain ⟨c15, h16⟩ := h15.cut
  obtain ⟨c16, h17⟩ := h16.cut
  obtain ⟨c17, h18⟩ := h17.cut
  obtain ⟨c18, h19⟩ := h18.cut
  obtain ⟨c19, h20⟩ := h19.cut
  obtain ⟨c20, h21⟩ := h20.cut
  exact ⟨c0.rg, c3.rg, c4.rg, c5.rg, c6.rg, c7.rg, c8.rg, c9.rg, c10.rg, c11.rg, c12.rg, c13.rg, c14.rg, c15.rg, c16.rg, c17.rg, c18.rg, fun x hx => (WTs.cut (c19.rl x hx)).1.rg, c20.rg⟩
theorem psz_SecuredMessage : Sz lszSecuredMessage okTSecuredMessage preTSecuredMessage := by
  intro a left hp h0 h1
  unfold lszSecuredMessage
  obtain ⟨r0, a0, b0, c0⟩ := psz_ByteS a.Data left hp h0 h1
  rcases c0 with ⟨c0, rfl⟩ | ⟨c0, d0, e0⟩
  · exact ⟨-1, by simp [a0, c0], by omega, .inl ⟨c0, rfl⟩⟩
  exact ⟨r0, by simp [a0, c0], b0, .inr ⟨c0, d0, e0⟩⟩
theorem psz_RadioPacket : Sz lszRadioPacket okTRadioPacket preTRadioPacket := by
  intro a left hp h0 h1
  unfold lszRadioPacket
  obtain ⟨r0, a0, b0, c0⟩ := psz_SecuredMessage a.Message left hp h0 h1
  rcases c0 with ⟨c0, rfl⟩ | ⟨c0, d0, e0⟩
  · exact ⟨-1, by simp [a0, c0], by omega, .inl ⟨c0, rfl⟩⟩
  exact ⟨r0, by simp [a0, c0], b0, .inr ⟨c0, d0, e0⟩⟩
theorem psz_Flight : Sz lszFlight okTFlight preTFlight := by
  intro a left hp h0 h1
  unfold lszFlight
  obtain ⟨r0, a0, b0, c0⟩ := psz_RadioPacket a.Radio left hp h0 h1
  rcases c0 with ⟨c0, rfl⟩ | ⟨c0, d0, e0⟩
  · exact ⟨-1, by simp [a0, c0], by omega, .inl ⟨c0, rfl⟩⟩
  exact ⟨r0, by simp [a0, c0], b0, .inr ⟨c0, d0, e0⟩⟩
theorem psz_FlightS : Sz lszFlightS (okL okTFlight) (preL preTFlight) := sz_list psz_Flight (fun _ _ => rfl) (fun _ _ _ => rfl)
theorem pto_Signal : ∀ a, (fun _ => True) a → ltoSignal a = some a := fun a h => by simp [ltoSignal, pto_AuthVector _ trivial]
theorem pto_SecuredMessage : ∀ a, okTSecuredMessage a → ltoSecuredMessage a = some a := fun a h => by simp [ltoSecuredMessage, pto_ByteS _ h]
theorem pto_RadioPacket : ∀ a, okTRadioPacket a → ltoRadioPacket a = some a := fun a h => by simp [ltoRadioPacket, pto_SecuredMessage _ h]
theorem pto_Flight : ∀ a, okTFlight a → ltoFlight a = some a := fun a h => by simp [ltoFlight, pto_RadioPacket _ h, pto_Signal _ trivial]
theorem pto_FlightS : ∀ xs, okL okTFlight xs → ltoFlightS xs = some xs := to_list (⟨0, false, false, 0, ⟨0, 0, 0, 0, 0, ⟨0, 0, 0, 0, 0⟩, 0⟩, ⟨0, 0, ⟨0, 0, [], 0⟩⟩⟩ : TFlight) (by decide) pto_Flight (fun _ => rfl) (fun _ _ _ => rfl)
theorem peq_Signal : ∀ a, (fun _ => True) a → leqSignal a a = some true := fun a h => by simp [leqSignal, eqB_refl, strB, booB, peq_AuthVector _ trivial]
theorem peq_SecuredMessage : ∀ a, okTSecuredMessage a → leqSecuredMessage a a = some true := fun a h => by simp [leqSecuredMessage, eqB_refl, strB, booB, peq_ByteS _ h]
theorem peq_RadioPacket : ∀ a, okTRadioPacket a → leqRadioPacket a a = some true := fun a h => by simp [leqRadioPacket, eqB_refl, strB, booB, peq_SecuredMessage _ h]
theorem peq_Flight : ∀ a, okTFlight a → leqFlight a a = some true := fun a h => by simp [leqFlight, eqB_refl, strB, booB, peq_RadioPacket _ h, peq_Signal _ trivial]
theorem peq_FlightS : ∀ xs, okL okTFlight xs → leqFlightS xs xs = some true := eq_list peq_Flight (fun _ _ => rfl) (fun _ _ _ => rfl)
theorem pz_FlightS : Mk lmarkFlightS_z (okL okTFlight) 1099532599296 := by
  refine mk_list (L := lmarkFlightS_z_L1) (b := 1048596) (by decide) (by decide) (fun _ _ => rfl) (fun xs k => by simp [lmarkFlightS_z_L1, ltB_self]) (fun xs k i x hx hi hl hok h0 h1 => ?_)
  · skip
    obtain ⟨k0, e0, l0, u0⟩ := pz_ByteS x.Radio.Message.Data (k + 19) hok (by omega) (by omega)
    refine ⟨k0 + 1, ?_, by omega, by omega⟩
    have hw : ∀ n : Int, 0 ≤ n → n ≤ 9223372036854775807 → WR n = n := fun n h h' => WR_in (by omega)
    simp (disch := omega) only [lmarkFlightS_z_L1, ltB_lt hi, ix_nat, hx, WR_succ (show i < 9223372036854775807 by omega), Option.bind_some, cond_true, hw, Int.add_assoc, Int.reduceAdd, e0]
theorem wtTServerPool {x : List D} (h0 : WTs [.i .i64, .i .i64] x) : ∃ a : TServerPool, x = eTServerPool a ∧ (fun _ => True) a := by
  obtain ⟨n0, r0, rfl, w0, h1⟩ := h0.gi
  obtain ⟨n1, r1, rfl, w1, h2⟩ := h1.gi
  obtain rfl := h2.gn
  exact ⟨⟨n0, n1⟩, rfl, trivial⟩
def rngTServerPool (a : TServerPool) : Prop := rgI .i64 a.Size ∧ rgI .i64 a.UpMask
theorem rgTServerPool {a : TServerPool} (h0 : WTs [.i .i64, .i .i64] (eTServerPool a)) : rngTServerPool a := by
  unfold eTServerPool at h0
  obtain ⟨c0, h1⟩ := h0.cut
  obtain ⟨c1, h2⟩ := h1.cut
  exact ⟨c0.rg, c1.rg⟩
theorem pto_ServerPool : ∀ a, (fun _ => True) a → ltoServerPool a = some a := fun a h => by simp [ltoServerPool]
theorem peq_ServerPool : ∀ a, (fun _ => True) a → leqServerPool a a = some true := fun a h => by simp [leqServerPool, eqB_refl, strB, booB]
def okTNetwork (a : TNetwork) : Prop := okTCellMap a.Map ∧ okL okTDevice a.Devices ∧ okL okTSession a.Sessions ∧ okL okTAccount a.Accounts ∧ okL okTFlight a.Flights
def preTNetwork (a : TNetwork) : Prop := preTCellMap a.Map ∧ preL preTDevice a.Devices ∧ preL preTSession a.Sessions ∧ preL preTAccount a.Accounts ∧ preL preTFlight a.Flights
theorem wtTNetwork {x : List D} (h0 : WTs [.l [.i .i64, .l [.i .i64]], .l [.i .i64, .i .i64, .i .i64, .i .i64, .i .i64, .i .i64, .i .i64, .i .i64, .i .i64, .b, .i .i64, .i .i64, .l [.i .i64, .l [.i .u8]], .l [.l [.i .u8]]], .l [.i .i64, .i .i64, .i .i64, .i .i64, .i .i64, .i .i64, .i .i64, .l [.i .i64], .i .i64, .i .i64, .i .i64, .i .i64, .i .i64, .i .i64, .i .i64, .i .i64, .i .i64, .i .i64, .i .i64, .i .i64, .i .i64, .i .i64, .i .i64, .l [.l [.i .u8]], .i .i64, .l [.i .i64, .l [.i .u8]], .i .i64, .i .i64, .i .i64, .i .i64], .l [.i .i64, .i .i64, .i .i64, .l [.i .i64, .i .i64]], .l [.i .i64, .b, .b, .i .i64, .i .i64, .i .i64, .i .i64, .i .i64, .i .i64, .i .i64, .i .i64, .i .i64, .i .i64, .i .i64, .i .i64, .i .i64, .i .i64, .i .i64, .i .i64, .l [.i .u8], .i .i64], .i .i64, .i .i64, .i .i64, .i .i64, .i .i64] x) : ∃ a : TNetwork, x = eTNetwork a ∧ preTNetwork a := by
  obtain ⟨y0, r0, rfl, l0, w0, h1⟩ := h0.gl
  obtain ⟨n0, rfl, p0⟩ := WTL_map (f := eTCell) (p := preTCell) (fun _ h => wtTCell h) w0
  obtain ⟨y1, r1, rfl, l1, w1, h2⟩ := h1.gl
  obtain ⟨n1, rfl, p1⟩ := WTL_map (f := eTDevice) (p := preTDevice) (fun _ h => wtTDevice h) w1
  obtain ⟨y2, r2, rfl, l2, w2, h3⟩ := h2.gl
  obtain ⟨n2, rfl, p2⟩ := WTL_map (f := eTSession) (p := preTSession) (fun _ h => wtTSession h) w2
  obtain ⟨y3, r3, rfl, l3, w3, h4⟩ := h3.gl
  obtain ⟨n3, rfl, p3⟩ := WTL_map (f := eTAccount) (p := preTAccount) (fun _ h => wtTAccount h) w3
  obtain ⟨y4, r4, rfl, l4, w4, h5⟩ := h4.gl
  obtain ⟨n4, rfl, p4⟩ := WTL_map (f := eTFlight) (p := preTFlight) (fun _ h => wtTFlight h) w4
  obtain ⟨n5, r5, rfl, w5, h6⟩ := h5.gi
  obtain ⟨n6, r6, rfl, w6, h7⟩ := h6.gi
  obtain ⟨n7, r7, rfl, w7, h8⟩ := h7.gi
  obtain ⟨n8, r8, rfl, w8, h9⟩ := h8.gi
  obtain ⟨n9, r9, rfl, w9, h10⟩ := h9.gi
  obtain rfl := h10.gn
  exact ⟨⟨⟨n0⟩, n1, n2, n3, n4, n5, ⟨n6, n7⟩, n8, n9⟩, rfl, ⟨⟨by simpa using l0, p0⟩, ⟨by simpa using l1, p1⟩, ⟨by simpa using l2, p2⟩, ⟨by simpa using l3, p3⟩, ⟨by simpa using l4, p4⟩⟩⟩
def rngTNetwork (a : TNetwork) : Prop := (∀ x ∈ a.Map.Cells, rngTCell x) ∧ (∀ x ∈ a.Devices, rngTDevice x) ∧ (∀ x ∈ a.Sessions, rngTSession x) ∧ (∀ x ∈ a.Accounts, rngTAccount x) ∧ (∀ x ∈ a.Flights, rngTFlight x) ∧ rgI .i64 a.DownCells ∧ rgI .i64 a.Core.Size ∧ rgI .i64 a.Core.UpMask ∧ rgI .i64 a.Now ∧ rgI .i64 a.Lost
theorem rgTNetwork {a : TNetwork} (h0 : WTs [.l [.i .i64, .l [.i .i64]], .l [.i .i64, .i .i64, .i .i64, .i .i64, .i .i64, .i .i64, .i .i64, .i .i64, .i .i64, .b, .i .i64, .i .i64, .l [.i .i64, .l [.i .u8]], .l [.l [.i .u8]]], .l [.i .i64, .i .i64, .i .i64, .i .i64, .i .i64, .i .i64, .i .i64, .l [.i .i64], .i .i64, .i .i64, .i .i64, .i .i64, .i .i64, .i .i64, .i .i64, .i .i64, .i .i64, .i .i64, .i .i64, .i .i64, .i .i64, .i .i64, .i .i64, .l [.l [.i .u8]], .i .i64, .l [.i .i64, .l [.i .u8]], .i .i64, .i .i64, .i .i64, .i .i64], .l [.i .i64, .i .i64, .i .i64, .l [.i .i64, .i .i64]], .l [.i .i64, .b, .b, .i .i64, .i .i64, .i .i64, .i .i64, .i .i64, .i .i64, .i .i64, .i .i64, .i .i64, .i .i64, .i .i64, .i .i64, .i .i64, .i .i64, .i .i64, .i .i64, .l [.i .u8], .i .i64], .i .i64, .i .i64, .i .i64, .i .i64, .i .i64] (eTNetwork a)) : rngTNetwork a := by
  unfold eTNetwork at h0
  obtain ⟨c0, h1⟩ := h0.cut
  obtain ⟨c1, h2⟩ := h1.cut
  obtain ⟨c2, h3⟩ := h2.cut
  obtain ⟨c3, h4⟩ := h3.cut
  obtain ⟨c4, h5⟩ := h4.cut
  obtain ⟨c5, h6⟩ := h5.cut
  obtain ⟨c6, h7⟩ := h6.cut
  obtain ⟨c7, h8⟩ := h7.cut
  obtain ⟨c8, h9⟩ := h8.cut
  obtain ⟨c9, h10⟩ := h9.cut
  exact ⟨fun x hx => rgTCell (c0.rl x hx), fun x hx => rgTDevice (c1.rl x hx), fun x hx => rgTSession (c2.rl x hx), fun x hx => rgTAccount (c3.rl x hx), fun x hx => rgTFlight (c4.rl x hx), c5.rg, c6.rg, c7.rg, c8.rg, c9.rg⟩
theorem psz_Network : Sz lszNetwork okTNetwork preTNetwork := by
  intro a left hp h0 h1
  unfold lszNetwork
  obtain ⟨r0, a0, b0, c0⟩ := psz_CellMap a.Map left hp.1 h0 h1
  rcases c0 with ⟨c0, rfl⟩ | ⟨c0, d0, e0⟩
  · exact ⟨-1, by simp [a0, c0], by omega, .inl ⟨c0, rfl⟩⟩
  obtain ⟨r1, a1, b1, c1⟩ := psz_DeviceS a.Devices r0 hp.2.1 d0 b0
  rcases c1 with ⟨c1, rfl⟩ | ⟨c1, d1, e1⟩
  · exact ⟨-1, by simp [a0, c0, a1, c1], by omega, .inl ⟨c1, rfl⟩⟩
  obtain ⟨r2, a2, b2, c2⟩ := psz_SessionS a.Sessions r1 hp.2.2.1 d1 b1
  rcases c2 with ⟨c2, rfl⟩ | ⟨c2, d2, e2⟩
  · exact ⟨-1, by simp [a0, c0, a1, c1, a2, c2], by omega, .inl ⟨c2, rfl⟩⟩
  obtain ⟨r3, a3, b3, c3⟩ := psz_AccountS a.Accounts r2 hp.2.2.2.1 d2 b2
  rcases c3 with ⟨c3, rfl⟩ | ⟨c3, d3, e3⟩
  · exact ⟨-1, by simp [a0, c0, a1, c1, a2, c2, a3, c3], by omega, .inl ⟨c3, rfl⟩⟩
  obtain ⟨r4, a4, b4, c4⟩ := psz_FlightS a.Flights r3 hp.2.2.2.2 d3 b3
  rcases c4 with ⟨c4, rfl⟩ | ⟨c4, d4, e4⟩
  · exact ⟨-1, by simp [a0, c0, a1, c1, a2, c2, a3, c3, a4, c4], by omega, .inl ⟨c4, rfl⟩⟩
  exact ⟨r4, by simp [a0, c0, a1, c1, a2, c2, a3, c3, a4, c4], b4, .inr ⟨c4, d4, e0, e1, e2, e3, e4⟩⟩
theorem pto_Network : ∀ a, okTNetwork a → ltoNetwork a = some a := fun a h => by simp [ltoNetwork, pto_CellMap _ h.1, pto_DeviceS _ h.2.1, pto_SessionS _ h.2.2.1, pto_AccountS _ h.2.2.2.1, pto_FlightS _ h.2.2.2.2, pto_ServerPool _ trivial]
theorem peq_Network : ∀ a, okTNetwork a → leqNetwork a a = some true := fun a h => by simp [leqNetwork, eqB_refl, strB, booB, peq_CellMap _ h.1, peq_DeviceS _ h.2.1, peq_SessionS _ h.2.2.1, peq_AccountS _ h.2.2.2.1, peq_FlightS _ h.2.2.2.2, peq_ServerPool _ trivial]
theorem pz_Network : Mk lmarkNetwork_z okTNetwork 4611693715074842624 := by
  intro a k h h0 h1
  obtain ⟨k0, e0, l0, u0⟩ := pz_CellMap a.Map k h.1 (by omega) (by omega)
  obtain ⟨k1, e1, l1, u1⟩ := pz_DeviceS a.Devices k0 h.2.1 (by omega) (by omega)
  obtain ⟨k2, e2, l2, u2⟩ := pz_SessionS a.Sessions k1 h.2.2.1 (by omega) (by omega)
  obtain ⟨k3, e3, l3, u3⟩ := pz_AccountS a.Accounts k2 h.2.2.2.1 (by omega) (by omega)
  obtain ⟨k4, e4, l4, u4⟩ := pz_FlightS a.Flights k3 h.2.2.2.2 (by omega) (by omega)
  exact ⟨k4, by simp only [lmarkNetwork_z, e0, e1, e2, e3, e4, Option.bind_some], by omega, by omega⟩
def gReservationS (k : Int) : TReservation := (⟨k, k + 1⟩ : TReservation)
theorem pmark_ReservationS (xs : List TReservation) (h : xs.length ≤ 1048576) : lmarkReservationS xs 1 = some (1 + (2 : Int) * (xs.length : Int), marks gReservationS 2 xs.length 1) := by
  have := mark_list gReservationS 2 (by decide) (L := lmarkReservationS_L1) (fun k i v hi hl h0 h1 => by
    have hw : ∀ j : Int, 0 ≤ j → j ≤ 100 → WR (k + j) = k + j := fun j h2 h3 => WR_in (by omega)
    simp [lmarkReservationS_L1, ltB_lt hi, ix_nat, List.getElem?_eq_getElem hi, hi, List.set_set, gReservationS, WR_succ (show i < 9223372036854775807 by omega), hw, Int.add_assoc]) (fun k v => by simp [lmarkReservationS_L1, ltB_self]) xs h
  unfold lmarkReservationS
  rw [this]; rfl
def okTKeyPath (a : TKeyPath) : Prop := okL (fun _ => True) a.Steps
def preTKeyPath (a : TKeyPath) : Prop := preL (fun _ => True) a.Steps
theorem wtTKeyPath {x : List D} (h0 : WTs [.l [.i .i64]] x) : ∃ a : TKeyPath, x = eTKeyPath a ∧ preTKeyPath a := by
  obtain ⟨y0, r0, rfl, l0, w0, h1⟩ := h0.gl
  obtain ⟨n0, rfl, p0⟩ := WTL_map (f := eI) (p := (fun _ => True)) (fun x h => by obtain ⟨n, r, rfl, w, h⟩ := h.gi; obtain rfl := h.gn; exact ⟨n, rfl, trivial⟩) w0
  obtain rfl := h1.gn
  exact ⟨⟨n0⟩, rfl, ⟨by simpa using l0, p0⟩⟩
def rngTKeyPath (a : TKeyPath) : Prop := (∀ x ∈ a.Steps, rgI .i64 x)
theorem rgTKeyPath {a : TKeyPath} (h0 : WTs [.l [.i .i64]] (eTKeyPath a)) : rngTKeyPath a := by
  unfold eTKeyPath at h0
  obtain ⟨c0, h1⟩ := h0.cut
  exact fun x hx => (WTs.cut (c0.rl x hx)).1.rg
def okTLeakedKey (a : TLeakedKey) : Prop := okTKeyPath a.Path
def preTLeakedKey (a : TLeakedKey) : Prop := preTKeyPath a.Path
theorem wtTLeakedKey {x : List D} (h0 : WTs [.i .i64, .l [.i .i64]] x) : ∃ a : TLeakedKey, x = eTLeakedKey a ∧ preTLeakedKey a := by
  obtain ⟨n0, r0, rfl, w0, h1⟩ := h0.gi
  obtain ⟨y1, r1, rfl, l1, w1, h2⟩ := h1.gl
  obtain ⟨n1, rfl, p1⟩ := WTL_map (f := eI) (p := (fun _ => True)) (fun x h => by obtain ⟨n, r, rfl, w, h⟩ := h.gi; obtain rfl := h.gn; exact ⟨n, rfl, trivial⟩) w1
  obtain rfl := h2.gn
  exact ⟨⟨n0, ⟨n1⟩⟩, rfl, ⟨by simpa using l1, p1⟩⟩
def rngTLeakedKey (a : TLeakedKey) : Prop := rgI .i64 a.Generation ∧ (∀ x ∈ a.Path.Steps, rgI .i64 x)
theorem rgTLeakedKey {a : TLeakedKey} (h0 : WTs [.i .i64, .l [.i .i64]] (eTLeakedKey a)) : rngTLeakedKey a := by
  unfold eTLeakedKey at h0
  obtain ⟨c0, h1⟩ := h0.cut
  obtain ⟨c1, h2⟩ := h1.cut
  exact ⟨c0.rg, fun x hx => (WTs.cut (c1.rl x hx)).1.rg⟩
theorem psz_KeyPath : Sz lszKeyPath okTKeyPath preTKeyPath := by
  intro a left hp h0 h1
  unfold lszKeyPath
  obtain ⟨r0, a0, b0, c0⟩ := psz_IntS a.Steps left hp h0 h1
  rcases c0 with ⟨c0, rfl⟩ | ⟨c0, d0, e0⟩
  · exact ⟨-1, by simp [a0, c0], by omega, .inl ⟨c0, rfl⟩⟩
  exact ⟨r0, by simp [a0, c0], b0, .inr ⟨c0, d0, e0⟩⟩
theorem psz_LeakedKey : Sz lszLeakedKey okTLeakedKey preTLeakedKey := by
  intro a left hp h0 h1
  unfold lszLeakedKey
  obtain ⟨r0, a0, b0, c0⟩ := psz_KeyPath a.Path left hp h0 h1
  rcases c0 with ⟨c0, rfl⟩ | ⟨c0, d0, e0⟩
  · exact ⟨-1, by simp [a0, c0], by omega, .inl ⟨c0, rfl⟩⟩
  exact ⟨r0, by simp [a0, c0], b0, .inr ⟨c0, d0, e0⟩⟩
theorem psz_LeakedKeyS : Sz lszLeakedKeyS (okL okTLeakedKey) (preL preTLeakedKey) := sz_list psz_LeakedKey (fun _ _ => rfl) (fun _ _ _ => rfl)
theorem pto_KeyPath : ∀ a, okTKeyPath a → ltoKeyPath a = some a := fun a h => by simp [ltoKeyPath, pto_IntS _ h]
theorem pto_LeakedKey : ∀ a, okTLeakedKey a → ltoLeakedKey a = some a := fun a h => by simp [ltoLeakedKey, pto_KeyPath _ h]
theorem pto_LeakedKeyS : ∀ xs, okL okTLeakedKey xs → ltoLeakedKeyS xs = some xs := to_list (⟨0, ⟨[]⟩⟩ : TLeakedKey) (by decide) pto_LeakedKey (fun _ => rfl) (fun _ _ _ => rfl)
theorem peq_KeyPath : ∀ a, okTKeyPath a → leqKeyPath a a = some true := fun a h => by simp [leqKeyPath, eqB_refl, strB, booB, peq_IntS _ h]
theorem peq_LeakedKey : ∀ a, okTLeakedKey a → leqLeakedKey a a = some true := fun a h => by simp [leqLeakedKey, eqB_refl, strB, booB, peq_KeyPath _ h]
theorem peq_LeakedKeyS : ∀ xs, okL okTLeakedKey xs → leqLeakedKeyS xs xs = some true := eq_list peq_LeakedKey (fun _ _ => rfl) (fun _ _ _ => rfl)
theorem pz_LeakedKeyS : Mk lmarkLeakedKeyS_z (okL okTLeakedKey) 1099512676352 := by
  refine mk_list (L := lmarkLeakedKeyS_z_L1) (b := 1048577) (by decide) (by decide) (fun _ _ => rfl) (fun xs k => by simp [lmarkLeakedKeyS_z_L1, ltB_self]) (fun xs k i x hx hi hl hok h0 h1 => ?_)
  · skip
    obtain ⟨k0, e0, l0, u0⟩ := pz_IntS x.Path.Steps (k + 1) hok (by omega) (by omega)
    refine ⟨k0, ?_, by omega, by omega⟩
    have hw : ∀ n : Int, 0 ≤ n → n ≤ 9223372036854775807 → WR n = n := fun n h h' => WR_in (by omega)
    simp (disch := omega) only [lmarkLeakedKeyS_z_L1, ltB_lt hi, ix_nat, hx, WR_succ (show i < 9223372036854775807 by omega), Option.bind_some, cond_true, hw, Int.add_assoc, Int.reduceAdd, e0]
end Go.AM
set_option linter.unusedVariables false
set_option linter.unusedSimpArgs false
namespace Go.AM
open Go.Proofs
attribute [local simp] ltB_self eqB_refl ix_nat
/-! sums that are hashed -/
theorem iInRange_eq (n a b : Int) : iInRange n a b = some (inR n a b) := by unfold iInRange inR; cases leB a n <;> rfl
theorem sl1In_eq (n a b : Int) : sl1In n a b = some (inR n a b) := by unfold sl1In inR; cases leB a n <;> rfl
theorem tmod_emod (x m : Int) : (Int.tmod x m) % m = x % m := by
  have h := Int.mul_tdiv_add_tmod x m
  have h2 : x % m = (m * x.tdiv m + x.tmod m) % m := by rw [h]
  rw [h2, Int.mul_add_emod_self_left]
theorem tmod_abs {m : Int} (x : Int) (hm : 0 < m) : -m < Int.tmod x m ∧ Int.tmod x m < m := ⟨Int.lt_tmod_of_pos x hm, Int.tmod_lt_of_pos x hm⟩
theorem mod_neg {r m : Int} (h1 : -m < r) (h2 : r < 0) : r % m = r + m := by
  rw [← Int.add_emod_right r m, Int.emod_eq_of_lt (by omega) (by omega)]
theorem iMod_eq (x : Int) {m : Int} (h1 : 1 ≤ m) (h2 : m ≤ 1000000000000) : iMod x m = some (x % m) := by
  obtain ⟨a, b⟩ := tmod_abs x (show 0 < m by omega)
  have hr : inR m 1 1000000000000 = true := inR_iff.2 ⟨h1, h2⟩
  have hz : (!eqB m 0) = true := by simp [eqB]; omega
  simp only [iMod, iInRange_eq, hr, hz, Option.bind_some, Bool.not_true, cond_false, cond_true]
  rw [← tmod_emod x m]
  by_cases h : Int.tmod x m < 0
  · rw [show ltB (Int.tmod x m) 0 = true from lt0_t h, mod_neg a h]
    simp only [cond_true, Option.bind_some]
    rw [WR_in (by omega)]
  · rw [show ltB (Int.tmod x m) 0 = false from lt0_f (by omega), Int.emod_eq_of_lt (by omega) b]
    simp only [cond_false, Option.bind_some]
theorem sMod_eq (x : Int) {m : Int} (h1 : 1 ≤ m) (h2 : m ≤ 1000000000000) : sMod x m = some (x % m) := by
  obtain ⟨a, b⟩ := tmod_abs x (show 0 < m by omega)
  have hr : inR m 1 1000000000000 = true := inR_iff.2 ⟨h1, h2⟩
  have hz : (!eqB m 0) = true := by simp [eqB]; omega
  simp only [sMod, sl1In_eq, hr, hz, Option.bind_some, Bool.not_true, cond_false, cond_true]
  rw [WR_in (by omega), Int.tmod_eq_emod_of_nonneg (by omega), Int.add_emod_right, tmod_emod]
abbrev hM : Int := 2147483647
def hstep (v x : Int) : Int := (v * 1000003 + x % hM + 13) % hM
theorem hstep_in (v x : Int) : 0 ≤ hstep v x ∧ hstep v x < hM := ⟨Int.emod_nonneg _ (by decide), Int.emod_lt_of_pos _ (by decide)⟩
theorem raw_eq {v x : Int} (h0 : 0 ≤ v) (h1 : v < hM) : Int.tmod (WR (WR (WR (v * 1000003) + x % hM) + 13)) hM = hstep v x := by
  have a := Int.emod_nonneg x (show hM ≠ 0 by decide)
  have b := Int.emod_lt_of_pos x (show 0 < hM by decide)
  unfold hM at *
  rw [WR_in (n := v * 1000003) (by omega), WR_in (n := v * 1000003 + x % 2147483647) (by omega), WR_in (n := v * 1000003 + x % 2147483647 + 13) (by omega), Int.tmod_eq_emod_of_nonneg (by omega)]
  rfl
theorem ihashStep_eq {v x : Int} (h0 : 0 ≤ v) (h1 : v < hM) : ihashStep v x = some (hstep v x) := by
  rw [ihashStep, iMod_eq x (by omega) (by omega)]
  simp only [Option.bind_some]
  rw [raw_eq h0 h1]
def hfold (v : Int) (xs : List Int) : Int := xs.foldl hstep v
theorem hfold_in {v : Int} (h0 : 0 ≤ v) (h1 : v < hM) : ∀ (xs : List Int), 0 ≤ hfold v xs ∧ hfold v xs < hM
  | [] => ⟨h0, h1⟩
  | x :: xs => hfold_in (hstep_in v x).1 (hstep_in v x).2 xs
theorem fold_run : ∀ (xs : List Int) (v : Int), 0 ≤ v → v < hM → forL (fun (s x : Int) => some (Step.next (ρ := Int) (Int.tmod (WR (WR (WR (s * 1000003) + x % hM) + 13)) hM))) some xs v = some (hfold v xs)
  | [], v, _, _ => rfl
  | x :: xs, v, h0, h1 => by
    rw [forL, raw_eq h0 h1]
    exact fold_run xs _ (hstep_in v x).1 (hstep_in v x).2
theorem sHash_eq {xs : List Int} (hl : xs.length ≤ 1048576) : sHash xs = some (hfold 11 xs) := by
  have := iter_for (step := sHash_L1 xs) xs (fun k (s : Int) => (s, (k : Int))) (fun s x => some (Step.next (Int.tmod (WR (WR (WR (s * 1000003) + x % hM) + 13)) hM))) some (by omega)
    (fun k x s hx hk => by
      simp only [sHash_L1, ltB_lt hk, ix_nat, hx, sMod_eq x (m := 2147483647) (by omega) (by omega), WR_succ (show k < 9223372036854775807 by omega), Option.bind_some, cond_true]; rfl) (fun s => by simp [sHash_L1]) 11
  rw [sHash, show iter (sHash_L1 xs) FU (11, 0) = _ from this, fold_run xs 11 (by decide) (by decide)]
  rfl
theorem ifold_run : ∀ (xs : List Int) (v : Int), 0 ≤ v → v < hM → forL (fun (s x : Int) => Option.bind (ihashStep s x) fun r => some (Step.next (ρ := Int) r)) some xs v = some (hfold v xs)
  | [], v, _, _ => rfl
  | x :: xs, v, h0, h1 => by
    rw [forL, ihashStep_eq h0 h1]
    exact ifold_run xs _ (hstep_in v x).1 (hstep_in v x).2
def khash (k : Int) (xs : List Int) : Int := hstep (hfold (hstep 11 k) xs) k
theorem khash_in (k : Int) (xs : List Int) : 0 ≤ khash k xs ∧ khash k xs < hM := hstep_in _ _
theorem iKeyedHash_eq {xs : List Int} (hl : xs.length ≤ 1048576) (k : Int) : iKeyedHash k xs = some (khash k xs) := by
  have := iter_for (step := iKeyedHash_L1 xs) xs (fun k (s : Int) => (s, (k : Int))) (fun s x => Option.bind (ihashStep s x) fun r => some (Step.next r)) some (by omega)
    (fun k x s hx hk => by
      simp only [iKeyedHash_L1, ltB_lt hk, ix_nat, hx, WR_succ (show k < 9223372036854775807 by omega), Option.bind_some, cond_true]
      cases ihashStep s x <;> rfl) (fun s => by simp [iKeyedHash_L1]) (hstep 11 k)
  rw [iKeyedHash, ihashStep_eq (by decide) (by decide)]
  simp only [Option.bind_some]
  have h2 := hstep_in 11 k
  rw [show iter (iKeyedHash_L1 xs) FU (hstep 11 k, 0) = _ from this, ifold_run xs _ h2.1 h2.2]
  have h3 := hfold_in h2.1 h2.2 xs
  simp only [Option.bind_some]
  rw [ihashStep_eq h3.1 h3.2]
  rfl
theorem sKeyedHash_eq {xs : List Int} (hl : xs.length ≤ 100000) (k : Int) : sKeyedHash k xs = some (khash k xs) := by
  have a1 : apOk 8 ([k] ++ xs).length = true := apOk_small (by omega) (by simp; omega)
  have a2 : apOk 8 (([k] ++ xs) ++ [k]).length = true := apOk_small (by omega) (by simp; omega)
  rw [sKeyedHash, a1, a2]
  simp only [cond_true]
  rw [sHash_eq (by simp; omega)]
  simp [hfold, khash]
end Go.AM
set_option linter.unusedVariables false
set_option linter.unusedSimpArgs false
namespace Go.AM
open Go.Proofs
attribute [local simp] ltB_self eqB_refl ix_nat
theorem zip_all : ∀ (a b : List Int), a.length ≤ b.length → ((a.zip b).all fun x => eqB x.1 x.2) = a.isPrefixOf b
  | [], b, _ => by simp [List.isPrefixOf]
  | x :: a, [], h => by simp at h
  | x :: a, y :: b, h => by
    rw [List.zip_cons_cons, List.all_cons, zip_all a b (by simpa using h), List.isPrefixOf]
    congr 1
    by_cases e : x = y
    · subst e; simp [eqB]
    · rw [show eqB x y = false from by simp [eqB, e]]; simp [e]
theorem geq_eq {a b : List Int} (h : a.length ≤ 1048576) (hl : a.length = b.length) : gslices_Equal_int_int a b = some (a.isPrefixOf b) := by
  unfold gslices_Equal_int_int
  rw [show eqB ((a.length : Nat) : Int) ((b.length : Nat) : Int) = true from by simp [eqB, hl], ← zip_all a b (by omega)]
  simp only [Bool.not_true, cond_false]
  have hz : (a.zip b).length = a.length := by simp; omega
  refine all_rule (a.zip b) _ (by omega) (fun k x hx hk => ?_) (by rw [hz]; simp [gslices_Equal_int_int_L1])
  have h1 : k < a.length := by omega
  have h2 : k < b.length := by omega
  have : x = (a[k], b[k]) := by rw [List.getElem?_eq_getElem hk] at hx; simpa using hx.symm
  subst this
  simp only [gslices_Equal_int_int_L1, ltB_lt h1, ix_nat, List.getElem?_eq_getElem h1, List.getElem?_eq_getElem h2, WR_succ (show k < 9223372036854775807 by omega), Option.bind_some, cond_true]
  cases eqB a[k] b[k] <;> rfl
theorem ipref_eq {p q : TKeyPath} (h : p.Steps.length ≤ 1048576) : iIsPrefixPath p q = some (p.Steps.isPrefixOf q.Steps) := by
  unfold iIsPrefixPath iEqualInts
  by_cases hl : p.Steps.length ≤ q.Steps.length
  · rw [show leB ((p.Steps.length : Nat) : Int) ((q.Steps.length : Nat) : Int) = true from by simp [leB, hl]]
    rw [show slOk q.Steps 0 ((p.Steps.length : Nat) : Int) = true from by simp [slOk, hl]]
    simp only [cond_true, Int.toNat_natCast]
    rw [geq_eq h (by simp; omega)]
    simp only [Option.bind_some]
    congr 1
    rw [Bool.eq_iff_iff]
    simp only [List.isPrefixOf_iff_prefix]
    constructor
    · intro hp; exact hp.trans (List.take_prefix _ _)
    · intro hp; rw [List.prefix_iff_eq_take] at hp; rw [← hp]; exact List.prefix_rfl
  · rw [show leB ((p.Steps.length : Nat) : Int) ((q.Steps.length : Nat) : Int) = false from by simp [leB]; omega]
    simp only [cond_false, Option.bind_some]
    congr 1
    symm
    rw [Bool.eq_false_iff]
    intro hp
    have := List.IsPrefix.length_le (List.isPrefixOf_iff_prefix.1 hp)
    omega
theorem spref_eq {p q : TKeyPath} (h : p.Steps.length ≤ 1048576) : sIsPrefixPath p q = some (p.Steps.isPrefixOf q.Steps) := by
  unfold sIsPrefixPath
  by_cases hl : p.Steps.length ≤ q.Steps.length
  · rw [show ltB ((q.Steps.length : Nat) : Int) ((p.Steps.length : Nat) : Int) = false from by simp [ltB]; omega, ← zip_all _ _ hl]
    simp only [cond_false]
    have hz : (p.Steps.zip q.Steps).length = p.Steps.length := by simp; omega
    refine all_rule (p.Steps.zip q.Steps) _ (by omega) (fun k x hx hk => ?_) (by rw [hz]; simp [sIsPrefixPath_L1])
    have h1 : k < p.Steps.length := by omega
    have h2 : k < q.Steps.length := by omega
    have : x = (p.Steps[k], q.Steps[k]) := by rw [List.getElem?_eq_getElem hk] at hx; simpa using hx.symm
    subst this
    simp only [sIsPrefixPath_L1, ltB_lt h1, ix_nat, List.getElem?_eq_getElem h1, List.getElem?_eq_getElem h2, WR_succ (show k < 9223372036854775807 by omega), Option.bind_some, cond_true]
    cases eqB p.Steps[k] q.Steps[k] <;> rfl
  · rw [show ltB ((q.Steps.length : Nat) : Int) ((p.Steps.length : Nat) : Int) = true from by simp [ltB]; omega]
    simp only [cond_true]
    congr 1
    symm
    rw [Bool.eq_false_iff]
    intro hp
    have := List.IsPrefix.length_le (List.isPrefixOf_iff_prefix.1 hp)
    omega
def expP (g : Int) (q : TKeyPath) (x : TLeakedKey) : Bool := eqB x.Generation g && x.Path.Steps.isPrefixOf q.Steps
theorem iExposes_eq {xs : List TLeakedKey} (h : okL okTLeakedKey xs) (g : Int) (q : TKeyPath) : iExposes xs g q = some (xs.any (expP g q)) :=
  any_rule xs (expP g q) (by have := h.1; omega) (fun k x hx hk => by
    have hq := (h.2 x (List.mem_of_getElem? hx)).1
    have := h.1
    simp only [iExposes_L1, ltB_lt hk, ix_nat, hx, WR_succ (show k < 9223372036854775807 by omega), expP, ipref_eq hq, Option.bind_some, cond_true]
    cases eqB x.Generation g <;> cases x.Path.Steps.isPrefixOf q.Steps <;> rfl) (by simp [iExposes_L1])
theorem sExposes_eq {xs : List TLeakedKey} (h : okL okTLeakedKey xs) (g : Int) (q : TKeyPath) : sExposes xs g q = some (xs.any (expP g q)) :=
  any_rule xs (expP g q) (by have := h.1; omega) (fun k x hx hk => by
    have hq := (h.2 x (List.mem_of_getElem? hx)).1
    have := h.1
    simp only [sExposes_L1, ltB_lt hk, ix_nat, hx, WR_succ (show k < 9223372036854775807 by omega), expP, spref_eq hq, Option.bind_some, cond_true]
    cases eqB x.Generation g <;> cases x.Path.Steps.isPrefixOf q.Steps <;> rfl) (by simp [sExposes_L1])

end Go.AM
set_option linter.unusedVariables false
set_option linter.unusedSimpArgs false
namespace Go.AM
/-! what a partial result is, if it is -/
def Wp {α : Type} (m : Option α) (Q : α → Prop) : Prop := match m with
  | some a => Q a
  | none => False
theorem Wp.ex {α : Type} {m : Option α} {Q : α → Prop} (h : Wp m Q) : ∃ a, m = some a ∧ Q a := by
  cases m with
  | none => exact h.elim
  | some a => exact ⟨a, rfl, h⟩
theorem Wp.of {α : Type} {m : Option α} {Q : α → Prop} {a : α} (h : m = some a) (q : Q a) : Wp m Q := by subst h; exact q
theorem Wp.some {α : Type} {a : α} {Q : α → Prop} (h : Q a) : Wp (some a) Q := h
theorem Wp.bind {α β : Type} {m : Option α} {k : α → Option β} {Q : β → Prop} (h : Wp m (fun a => Wp (k a) Q)) : Wp (Option.bind m k) Q := by
  cases m with
  | none => exact h.elim
  | some a => exact h
theorem Wp.mono {α : Type} {m : Option α} {P Q : α → Prop} (h : Wp m P) (k : ∀ a, P a → Q a) : Wp m Q := by
  cases m with
  | none => exact h.elim
  | some a => exact k a h
theorem Wp.call {α β : Type} {m : Option α} {k : α → Option β} {P : α → Prop} {Q : β → Prop} (h : Wp m P) (hk : ∀ a, P a → Wp (k a) Q) : Wp (Option.bind m k) Q := Wp.bind (h.mono hk)
theorem Wp.eq {α β : Type} {m : Option α} {k : α → Option β} {a : α} {Q : β → Prop} (h : m = .some a) (hk : Wp (k a) Q) : Wp (Option.bind m k) Q := by subst h; exact hk
theorem Wp.cond {α : Type} {b : Bool} {x y : Option α} {Q : α → Prop} (h1 : b = true → Wp x Q) (h0 : b = false → Wp y Q) : Wp (bif b then x else y) Q := by
  cases b
  · exact h0 rfl
  · exact h1 rfl
theorem Wp.ok {α : Type} {b : Bool} {x : Option α} {Q : α → Prop} (hb : b = true) (h : Wp x Q) : Wp (bif b then x else none) Q := by subst hb; exact h
theorem Wp.iter {σ ρ : Type} {step : σ → Option (Step σ ρ)} {Q : ρ → Prop} (I : σ → Prop) (μ : σ → Nat) (h : ∀ x, I x → Wp (step x) (fun s => match s with | .next x' => I x' ∧ μ x' < μ x | .done r => Q r)) :
    ∀ (n : Nat) (x : σ), I x → μ x < n → Wp (AM.iter step n x) Q
  | 0, _, _, h => by omega
  | n + 1, x, hI, hn => by
    obtain ⟨s, e, hs⟩ := (h x hI).ex
    rw [AM.iter, e]
    cases s with
    | next x' => exact Wp.iter I μ h n x' hs.1 (by have := hs.2; omega)
    | done r => exact hs
theorem Wp.iterF {σ ρ : Type} {step : σ → Option (Step σ ρ)} {Q : ρ → Prop} (I : σ → Prop) (μ : σ → Nat) {x : σ} (hI : I x) (hn : μ x ≤ 1000000000000) (h : ∀ x, I x → Wp (step x) (fun s => match s with | .next x' => I x' ∧ μ x' < μ x | .done r => Q r)) : Wp (AM.iter step FU x) Q :=
  Wp.iter I μ h FU x hI (by have := FU_big; omega)
theorem Wp.dn {σ ρ : Type} {m : Option ρ} {Q : Step σ ρ → Prop} (h : Wp m (fun r => Q (.done r))) : Wp (AM.dn m) Q := by
  cases m with
  | none => exact h.elim
  | some r => exact h
theorem Wp.ix {α β : Type} {xs : List α} {i : Int} {k : α → Option β} {Q : β → Prop} (h0 : 0 ≤ i) (h1 : i < xs.length) (hk : ∀ x, x ∈ xs → xs[i.toNat]? = .some x → Wp (k x) Q) : Wp (Option.bind (AM.ix xs i) k) Q := by
  have hl : i.toNat < xs.length := by omega
  have hx : xs[i.toNat]? = .some xs[i.toNat] := List.getElem?_eq_getElem hl
  refine Wp.eq (a := xs[i.toNat]) ?_ (hk _ (List.getElem_mem hl) hx)
  unfold AM.ix
  rw [show leB 0 i = true from by simp [leB, h0]]
  exact hx
theorem ltBt {a b : Int} (h : ltB a b = true) : a < b := ltB_t.1 h
theorem ltBf {a b : Int} (h : ltB a b = false) : b ≤ a := ltB_f.1 h
theorem leBt {a b : Int} (h : leB a b = true) : a ≤ b := leB_t.1 h
theorem leBf {a b : Int} (h : leB a b = false) : b < a := leB_f.1 h
theorem eqBt {a b : Int} (h : eqB a b = true) : a = b := eqB_t.1 h
theorem eqBf {a b : Int} (h : eqB a b = false) : a ≠ b := eqB_f.1 h
theorem apOk_in {b n : Nat} (h : n * b ≤ 140737488355328) (h' : n ≤ 9223372036854775807) : apOk b n = true := by simp [apOk, h, h']
end Go.AM
set_option linter.unusedVariables false
set_option linter.unusedSimpArgs false
namespace Go.AM
open Go.Proofs
attribute [local simp] ltB_self eqB_refl ix_nat
/-! keys -/
def dk (k x : Int) : Int := if khash k [9, x] = 0 then 1 else khash k [9, x]
theorem iDeriveKey_eq (k x : Int) : iDeriveKey k x = some (dk k x) := by
  rw [iDeriveKey, iKeyedHash_eq (by simp)]
  simp only [Option.bind_some, dk]
  by_cases h : khash k [9, x] = 0
  · rw [h]; simp
  · rw [show eqB (khash k [9, x]) 0 = false from eqB_f.2 h]; simp [h]
theorem sDeriveKey_eq (k x : Int) : sDeriveKey k x = some (dk k x) := by
  have := (khash_in k [9, x]).1
  rw [sDeriveKey, sKeyedHash_eq (by simp)]
  simp only [Option.bind_some, dk, sMax]
  by_cases h : khash k [9, x] = 0
  · rw [h, show ltB 1 0 = false from ltB_f.2 (by omega)]; simp
  · by_cases h1 : khash k [9, x] = 1
    · rw [h1]; simp
    · rw [show ltB 1 (khash k [9, x]) = true from ltB_t.2 (by omega)]; simp [h]
def kpath (k : Int) (xs : List Int) : Int := xs.foldl dk k
theorem kpath_run : ∀ (xs : List Int) (v : Int), forL (fun (s x : Int) => some (Step.next (ρ := Int) (dk s x))) some xs v = some (kpath v xs)
  | [], v => rfl
  | x :: xs, v => by rw [forL]; exact kpath_run xs _
theorem iKeyForPath_eq {p : TKeyPath} (hl : p.Steps.length ≤ 1048576) (k : Int) : iKeyForPath k p = some (kpath k p.Steps) := by
  have := iter_for (step := ideriveSteps_L1 p.Steps) p.Steps (fun j (s : Int) => (s, (j : Int))) (fun s x => some (Step.next (dk s x))) some (by omega)
    (fun j x s hx hj => by simp [ideriveSteps_L1, ltB_lt hj, hx, WR_succ (show j < 9223372036854775807 by omega), iDeriveKey_eq]) (fun s => by simp [ideriveSteps_L1]) k
  rw [iKeyForPath, ideriveSteps, show iter (ideriveSteps_L1 p.Steps) FU (k, 0) = _ from this, kpath_run]
  rfl
theorem sKeyForPath_eq {p : TKeyPath} (hl : p.Steps.length ≤ 1048576) (k : Int) : sKeyForPath k p = some (kpath k p.Steps) := by
  have := iter_for (step := sKeyForPath_L1 p) p.Steps (fun j (s : Int) => (s, (j : Int))) (fun s x => some (Step.next (dk s x))) some (by omega)
    (fun j x s hx hj => by simp [sKeyForPath_L1, ltB_lt hj, hx, WR_succ (show j < 9223372036854775807 by omega), sDeriveKey_eq]) (fun s => by simp [sKeyForPath_L1]) k
  rw [sKeyForPath, show iter (sKeyForPath_L1 p) FU (k, 0) = _ from this, kpath_run]
  rfl
def rkey (k e : Int) : Int := kpath k [1, 3, e]
theorem iRadioKey_eq (k e : Int) : iRadioKey k e = some (rkey k e) := by
  rw [iRadioKey, iRadioKeyPath]
  simp only [Option.bind_some]
  rw [iKeyForPath_eq (by simp)]; rfl
theorem sRadioKey_eq (k e : Int) : sRadioKey k e = some (rkey k e) := by
  rw [sRadioKey, sRadioKeyPath]
  simp only [Option.bind_some]
  rw [sKeyForPath_eq (by simp)]; rfl
/-! bytes -/
def okB (xs : List Int) : Prop := ∀ x ∈ xs, okU8 x
theorem WR_u8 {x : Int} (h : okU8 x) : WR x = x := WR_in (by simp only [okU8] at h; omega)
theorem bytes_run : ∀ (xs acc : List Int), okB xs → acc.length + xs.length ≤ 100000 → forL (fun (s : List Int) (x : Int) => bif apOk 8 (s ++ [WR x]).length then some (Step.next (ρ := List Int) (s ++ [WR x])) else none) some xs acc = some (acc ++ xs)
  | [], acc, _, _ => by simp [forL]
  | x :: xs, acc, h, hl => by
    simp only [List.length_cons] at hl
    rw [forL, show apOk 8 (acc ++ [WR x]).length = true from apOk_in (by simp; omega) (by simp; omega), WR_u8 (h x (.head _))]
    simp only [cond_true]
    rw [bytes_run xs (acc ++ [x]) (fun y hy => h y (.tail _ hy)) (by simp; omega)]
    simp
theorem iBytes_eq {xs : List Int} (hb : okB xs) (hl : xs.length ≤ 50000) : iBytesToInts xs = some (((xs.length : Nat) : Int) :: xs) := by
  have := iter_for (step := iBytesToInts_L1 xs) xs (fun j (s : List Int) => ((j : Int), s)) (fun (s : List Int) (x : Int) => bif apOk 8 (s ++ [WR x]).length then some (Step.next (ρ := List Int) (s ++ [WR x])) else none) some (by omega)
    (fun j x s hx hj => by
      simp only [iBytesToInts_L1, ltB_lt hj, ix_nat, hx, WR_succ (show j < 9223372036854775807 by omega), Option.bind_some, cond_true]
      cases apOk 8 (s ++ [WR x]).length <;> rfl) (fun s => by simp [iBytesToInts_L1]) [((xs.length : Nat) : Int)]
  have hm : mkOk 8 0 (WR (((xs.length : Nat) : Int) + 1)) = true := by
    rw [WR_in (by omega)]; simp only [mkOk, decide_eq_true_eq]; omega
  rw [iBytesToInts, hm]
  simp only [cond_true]
  rw [show ((List.replicate ((0 : Int)).toNat 0) ++ [((xs.length : Nat) : Int)]) = [((xs.length : Nat) : Int)] from rfl, show apOk 8 [((xs.length : Nat) : Int)].length = true from apOk_in (by simp) (by simp)]
  simp only [cond_true]
  rw [show iter (iBytesToInts_L1 xs) FU (0, [((xs.length : Nat) : Int)]) = _ from this, bytes_run xs _ hb (by simp; omega)]
  rfl
theorem sBytes_eq {xs : List Int} (hb : okB xs) (hl : xs.length ≤ 50000) : sBytesToInts xs = some (((xs.length : Nat) : Int) :: xs) := by
  have := iter_for (step := sBytesToInts_L1 xs) xs (fun j (s : List Int) => ((j : Int), s)) (fun (s : List Int) (x : Int) => bif apOk 8 (s ++ [WR x]).length then some (Step.next (ρ := List Int) (s ++ [WR x])) else none) some (by omega)
    (fun j x s hx hj => by
      simp only [sBytesToInts_L1, ltB_lt hj, ix_nat, hx, WR_succ (show j < 9223372036854775807 by omega), Option.bind_some, cond_true]
      cases apOk 8 (s ++ [WR x]).length <;> rfl) (fun s => by simp [sBytesToInts_L1]) [((xs.length : Nat) : Int)]
  rw [sBytesToInts, show iter (sBytesToInts_L1 xs) FU (0, [((xs.length : Nat) : Int)]) = _ from this, bytes_run xs _ hb (by simp; omega)]
  rfl
/-! secured messages -/
def vSec (m : TSecuredMessage) : Bool := inR m.Direction 0 1 && (inR m.Count 1 100000 && (leB ((m.Data.length : Nat) : Int) 60 && inR m.MAC 0 2147483646))
theorem sIsValidSecured_eq (m : TSecuredMessage) : sIsValidSecured m = some (vSec m) := by
  simp only [sIsValidSecured, sl1In_eq, Option.bind_some, vSec]
  cases inR m.Direction 0 1 <;> cases inR m.Count 1 100000 <;> cases leB ((m.Data.length : Nat) : Int) 60 <;> rfl
theorem iIsValidSecured_eq (m : TSecuredMessage) : iIsValidSecured m = some (vSec m) := by
  simp only [iIsValidSecured, iInRange_eq, Option.bind_some, vSec]
  by_cases h0 : m.Direction = 0
  · rw [h0, show inR 0 0 1 = true from inR_iff.2 (by omega)]
    simp only [eqB_refl, cond_true]
    cases inR m.Count 1 100000 <;> cases leB ((m.Data.length : Nat) : Int) 60 <;> rfl
  · by_cases h1 : m.Direction = 1
    · rw [h1, show inR 1 0 1 = true from inR_iff.2 (by omega), show eqB 1 0 = false from eqB_f.2 (by omega)]
      simp only [eqB_refl, cond_true, cond_false]
      cases inR m.Count 1 100000 <;> cases leB ((m.Data.length : Nat) : Int) 60 <;> rfl
    · rw [show eqB m.Direction 0 = false from eqB_f.2 h0, show eqB m.Direction 1 = false from eqB_f.2 h1, show inR m.Direction 0 1 = false from by
        cases h : inR m.Direction 0 1 with
        | false => rfl
        | true => have := inR_iff.1 h; omega]
      rfl
def mac (k : Int) (m : TSecuredMessage) : Int := khash k ([m.Direction, m.Count] ++ (((m.Data.length : Nat) : Int) :: m.Data))
theorem iVerifyMAC_eq {m : TSecuredMessage} (hb : okB m.Data) (hl : m.Data.length ≤ 50000) (k : Int) : iVerifyMAC k m = some (eqB m.MAC (mac k m)) := by
  rw [iVerifyMAC, isecuredMAC, iBytes_eq hb hl]
  simp only [Option.bind_some]
  rw [show apOk 8 ([m.Direction, m.Count] ++ (((m.Data.length : Nat) : Int) :: m.Data)).length = true from apOk_in (by simp; omega) (by simp; omega), iKeyedHash_eq (by simp; omega)]
  rfl
theorem sVerifyMAC_eq {m : TSecuredMessage} (hb : okB m.Data) (hl : m.Data.length ≤ 50000) (k : Int) : sVerifyMAC k m = some (eqB m.MAC (mac k m)) := by
  rw [sVerifyMAC, sl8Mac, sBytes_eq hb hl]
  simp only [Option.bind_some]
  rw [show apOk 8 ([m.Direction, m.Count] ++ (((m.Data.length : Nat) : Int) :: m.Data)).length = true from apOk_in (by simp; omega) (by simp; omega), sKeyedHash_eq (by simp; omega)]
  rfl
theorem vSec_len {m : TSecuredMessage} (h : vSec m = true) : m.Data.length ≤ 60 := by
  simp only [vSec, Bool.and_eq_true] at h
  have := leBt h.2.2.1
  omega
def vRad (k : Int) (p : TRadioPacket) : Bool := vSec p.Message && (eqB p.Message.Direction 1 && eqB p.Message.MAC (mac (rkey k p.Epoch) p.Message))
theorem iVerifyRadio_eq {p : TRadioPacket} (hb : okB p.Message.Data) (k : Int) : iVerifyRadio k p = some (vRad k p) := by
  rw [iVerifyRadio, iIsValidSecured_eq]
  simp only [Option.bind_some, vRad, iRadioKey_eq]
  cases hv : vSec p.Message
  · rfl
  · rw [iVerifyMAC_eq hb (Nat.le_trans (vSec_len hv) (by omega))]
    cases eqB p.Message.Direction 1 <;> rfl
theorem sVerifyRadio_eq {p : TRadioPacket} (hb : okB p.Message.Data) (k : Int) : sVerifyRadio k p = some (vRad k p) := by
  rw [sVerifyRadio, sIsValidSecured_eq]
  simp only [Option.bind_some, vRad, sRadioKey_eq]
  cases hv : vSec p.Message
  · rfl
  · rw [sVerifyMAC_eq hb (Nat.le_trans (vSec_len hv) (by omega))]
    cases eqB p.Message.Direction 1 <;> rfl
/-! deciphering -/
def d1 (k : Int) (i : Nat) (x : Int) : Int := (x - khash k [(i : Int)] % 256) % 256
def decL (k : Int) (xs : List Int) : List Int := xs.mapIdx (fun i x => d1 k i x)
theorem decL_len (k : Int) (xs : List Int) : (decL k xs).length = xs.length := by simp [decL]
theorem decL_ok (k : Int) (xs : List Int) : okB (decL k xs) := by
  intro x hx
  obtain ⟨i, hi⟩ := List.getElem?_of_mem hx
  simp only [decL, List.getElem?_mapIdx] at hi
  cases h : xs[i]? with
  | none => rw [h] at hi; cases hi
  | some y =>
    rw [h] at hi; simp at hi; subst hi
    simp only [okU8, d1]
    omega
theorem wrap8 (n : Int) : IntKind.u8.wrap n = n % 256 := by rw [IntKind.wrap_u8]
theorem iDecrypt_eq {xs : List Int} (hb : okB xs) (hl : xs.length ≤ 50000) (k : Int) : iDecrypt k xs = some (decL k xs) := by
  have hc : icopyBytes xs = some xs := by
    have hm : mkOk 1 ((xs.length : Nat) : Int) ((xs.length : Nat) : Int) = true := by simp only [mkOk, decide_eq_true_eq]; omega
    rw [icopyBytes, hm]
    simp [cpL]
  have goal : Wp (iter (iDecrypt_L1 k xs) FU (0, xs)) (fun r => r = decL k xs) := by
    refine Wp.iterF (fun s => ∃ i : Nat, i ≤ xs.length ∧ s.1 = (i : Int) ∧ s.2.length = xs.length ∧ (∀ j, j < i → s.2[j]? = (decL k xs)[j]?) ∧ (∀ j, i ≤ j → s.2[j]? = xs[j]?)) (fun s => ((xs.length : Int) - s.1).toNat) ⟨0, by omega, rfl, rfl, by omega, fun _ _ => rfl⟩ (by simp; omega) ?_
    rintro ⟨v2, v3⟩ ⟨i, hi, rfl, h3, h4, h5⟩
    simp only at h3 h4 h5
    simp only [iDecrypt_L1]
    refine Wp.cond (fun hlt => ?_) (fun hlt => ?_)
    · have hlt := ltBt hlt
      have hil : i < xs.length := by omega
      refine Wp.ix (by omega) (by omega) fun x hx hxi => ?_
      refine Wp.eq (iKeyedHash_eq (by simp) _) (Wp.ix (by omega) (by omega) fun x' _ _ => Wp.some ?_)
      simp only [Int.toNat_natCast] at hxi
      have hxi' : xs[i]? = some x := by rw [← h5 i (Nat.le_refl _)]; exact hxi
      have hr := khash_in k [(i : Int)]
      have e1 : Int.tmod (khash k [(i : Int)]) 256 = khash k [(i : Int)] % 256 := Int.tmod_eq_emod_of_nonneg hr.1
      have e2 : IntKind.u8.wrap (x - IntKind.u8.wrap (Int.tmod (khash k [(i : Int)]) 256)) = d1 k i x := by
        rw [wrap8, wrap8, e1, d1]
        omega
      have e3 : WR ((i : Int) + 1) = ((i + 1 : Nat) : Int) := by rw [WR_in (by omega)]; rfl
      rw [e2, e3]
      refine ⟨⟨i + 1, by omega, rfl, by simpa using h3, fun j hj => ?_, fun j hj => ?_⟩, ?_⟩
      · simp only [Int.toNat_natCast]
        rw [List.getElem?_set]
        by_cases hij : i = j
        · subst hij
          rw [if_pos rfl, if_pos (by omega)]
          simp only [decL, List.getElem?_mapIdx, hxi', Option.map_some]
        · rw [if_neg hij]; exact h4 j (by omega)
      · simp only [Int.toNat_natCast]
        rw [List.getElem?_set, if_neg (by omega)]
        exact h5 j (by omega)
      · simp only; omega
    · have hlt := ltBf hlt
      refine Wp.some (List.ext_getElem? fun j => ?_)
      by_cases hj : j < xs.length
      · exact h4 j (by omega)
      · rw [List.getElem?_eq_none (by omega), List.getElem?_eq_none (by rw [decL_len]; omega)]
  obtain ⟨r, h1, h2⟩ := goal.ex
  rw [iDecrypt, hc]
  simp only [Option.bind_some]
  rw [h1, h2]; rfl
theorem sDecrypt_eq {xs : List Int} (hb : okB xs) (hl : xs.length ≤ 50000) (k : Int) : sDecrypt k xs = some (decL k xs) := by
  have goal : Wp (iter (sDecrypt_L1 k xs) FU (0, [])) (fun r => r = decL k xs) := by
    refine Wp.iterF (fun s => ∃ i : Nat, i ≤ xs.length ∧ s.1 = (i : Int) ∧ s.2 = (decL k xs).take i) (fun s => ((xs.length : Int) - s.1).toNat) ⟨0, by omega, rfl, rfl⟩ (by simp; omega) ?_
    rintro ⟨v2, v3⟩ ⟨i, hi, rfl, rfl⟩
    simp only [sDecrypt_L1]
    refine Wp.cond (fun hlt => ?_) (fun hlt => ?_)
    · have hlt := ltBt hlt
      have hil : i < xs.length := by omega
      refine Wp.ix (by omega) (by omega) fun x hx hxi => ?_
      simp only [Int.toNat_natCast] at hxi
      have hx8 := hb x hx
      have hr := khash_in k [(i : Int)]
      have e1 : Int.tmod (khash k [(i : Int)]) 256 = khash k [(i : Int)] % 256 := Int.tmod_eq_emod_of_nonneg hr.1
      have hb8 : 0 ≤ khash k [(i : Int)] % 256 ∧ khash k [(i : Int)] % 256 < 256 := by omega
      simp only [okU8] at hx8
      refine Wp.eq (sKeyedHash_eq (by simp) _) (Wp.eq (sMod_eq _ (by omega) (by omega)) ?_)
      have hlen : ((decL k xs).take i).length = i := by rw [List.length_take, decL_len]; omega
      rw [e1, WR_u8 (hb x hx), WR_in (by omega), wrap8]
      have e4 : (x - khash k [(i : Int)] % 256) % 256 % 256 = d1 k i x := by rw [d1]; omega
      rw [e4]
      refine Wp.ok (apOk_in (by simp only [List.length_append, hlen, List.length_cons, List.length_nil]; omega) (by simp only [List.length_append, hlen, List.length_cons, List.length_nil]; omega)) (Wp.some ?_)
      have e3 : WR ((i : Int) + 1) = ((i + 1 : Nat) : Int) := by rw [WR_in (by omega)]; rfl
      rw [e3]
      have hxd : (decL k xs)[i]? = some (d1 k i x) := by simp only [decL, List.getElem?_mapIdx, hxi, Option.map_some]
      refine ⟨⟨i + 1, by omega, rfl, by rw [List.take_add_one, hxd]; rfl⟩, ?_⟩
      simp only; omega
    · have hlt := ltBf hlt
      refine Wp.some ?_
      rw [List.take_of_length_le (by rw [decL_len]; omega)]
  obtain ⟨r, h1, h2⟩ := goal.ex
  rw [sDecrypt, h1, h2]; rfl
end Go.AM
set_option linter.unusedVariables false
set_option linter.unusedSimpArgs false
namespace Go.AM
open Go.Proofs
attribute [local simp] ltB_self eqB_refl ix_nat
def gByteS (k : Int) : Int := IntKind.u8.wrap k
theorem pmark_ByteS (xs : List Int) (h : xs.length ≤ 1048576) : lmarkByteS xs 1 = some (1 + (1 : Int) * (xs.length : Int), marks gByteS 1 xs.length 1) := by
  have := mark_list gByteS 1 (by decide) (L := lmarkByteS_L1) (fun k i v hi hl h0 h1 => by
    have hw : ∀ j : Int, 0 ≤ j → j ≤ 100 → WR (k + j) = k + j := fun j h2 h3 => WR_in (by omega)
    simp [lmarkByteS_L1, ltB_lt hi, ix_nat, List.getElem?_eq_getElem hi, hi, List.set_set, gByteS, WR_succ (show i < 9223372036854775807 by omega), hw, Int.add_assoc]) (fun k v => by simp [lmarkByteS_L1, ltB_self]) xs h
  rw [lmarkByteS, this]
  rfl
theorem pheld_ByteS (n : Nat) (h : n ≤ 1048576) : lheldByteS (marks gByteS 1 n 1) 1 = some (1 + (1 : Int) * (n : Int)) := by
  have := held_list gByteS 1 (by decide) (L := lheldByteS_L1) (fun xs k i hi h0 h1 h2 => by
    have hlt := (List.getElem?_eq_some_iff.1 hi).1
    have hw : ∀ j : Int, 0 ≤ j → j ≤ 100 → WR (k + j) = k + j := fun j h2 h3 => WR_in (by omega)
    simp [lheldByteS_L1, ltB_lt hlt, ix_nat, hi, gByteS, eqB_refl, WR_succ (show i < 9223372036854775807 by omega), hw, Int.add_assoc]) (fun xs k => by simp [lheldByteS_L1, ltB_self]) n h
  exact this
theorem open_eq {p : TRadioPacket} (hb : okB p.Message.Data) (k g e : Int) : ∃ r, iOpenRadio k g e p = some r ∧ sOpenRadio k g e p = some r ∧ r.1.Data.length ≤ 60 := by
  simp only [iOpenRadio, sOpenRadio, iVerifyRadio_eq hb, sVerifyRadio_eq hb, iRadioKey_eq, sRadioKey_eq, Option.bind_some]
  cases hg : eqB p.Generation g
  · exact ⟨_, rfl, rfl, by simp⟩
  cases he : eqB p.Epoch e
  · exact ⟨_, rfl, rfl, by simp⟩
  cases hv : vRad k p
  · exact ⟨_, rfl, rfl, by simp⟩
  have he := eqBt he
  simp only [vRad, Bool.and_eq_true] at hv
  obtain ⟨h1, h2, h3⟩ := hv
  have hlen := vSec_len h1
  have hd := eqBt h2
  have hm := eqBt h3
  have hcnt : 1 ≤ p.Message.Count ∧ p.Message.Count ≤ 100000 := by
    simp only [vSec, Bool.and_eq_true] at h1
    exact inR_iff.1 h1.2.1
  rw [he] at hm
  have ek : eqB p.Message.MAC (mac (rkey k e) p.Message) = true := by rw [hm]; simp
  simp only [Bool.not_true, cond_false, iopenSecured, iDeriveKey_eq, iDecrypt_eq hb (show p.Message.Data.length ≤ 50000 by omega), sUnprotect, sIsValidSecured_eq, h1, h2, sVerifyMAC_eq hb (show p.Message.Data.length ≤ 50000 by omega), ek, show leB p.Message.Count 0 = false from leB_f.2 (by omega), sDeriveKey_eq, sDecrypt_eq hb (show p.Message.Data.length ≤ 50000 by omega), Option.bind_some]
  exact ⟨_, rfl, rfl, by simp only [decL_len]; exact hlen⟩
theorem eaves_eq {n : TNetwork} (hn : n.Flights.length ≤ 1048576) (hs : n.Sessions.length ≤ 1048576) (hb : ∀ f ∈ n.Flights, okB f.Radio.Message.Data) {l : List TLeakedKey} (h : okL okTLeakedKey l) (i : Int) :
    ∃ r, iEavesdrop n l i = some r ∧ sEavesdrop n l i = some r ∧ r.1.length ≤ 60 := by
  have hinr : ∀ (a : Int) (m : Nat), m ≤ 1048576 → inR a 0 (WR ((m : Int) - 1)) = true → 0 ≤ a ∧ a < m := fun a m hm h => by
    have := inR_iff.1 h
    rw [WR_in (by omega)] at this
    omega
  simp only [iEavesdrop, sEavesdrop, iInRange_eq, sl1In_eq, iisReadable, iRadioKeyPath, sl35Readable, sRadioKeyPath, iExposes_eq h, sExposes_eq h, Option.bind_some]
  cases hi : inR i 0 (WR (((n.Flights.length : Nat) : Int) - 1))
  · exact ⟨_, rfl, rfl, by simp⟩
  obtain ⟨i0, i1⟩ := hinr _ _ hn hi
  obtain ⟨f, hf, ef⟩ := ix_in i0 i1
  simp only [Bool.not_true, cond_false, ef, Option.bind_some]
  cases hr : f.IsRadio
  · exact ⟨_, rfl, rfl, by simp⟩
  simp only [Bool.not_true, cond_false, cond_true, Option.bind_some]
  cases he : l.any (expP f.Radio.Generation ⟨[1, 3, f.Radio.Epoch]⟩)
  · exact ⟨_, rfl, rfl, by simp⟩
  simp only [Bool.not_true, cond_false, Option.bind_some]
  cases hd : inR f.Device 0 (WR (((n.Sessions.length : Nat) : Int) - 1))
  · exact ⟨_, rfl, rfl, by simp⟩
  obtain ⟨d0, d1⟩ := hinr _ _ hs hd
  obtain ⟨s, _, es⟩ := ix_in d0 d1
  obtain ⟨r, r1, r2, r3⟩ := open_eq (hb f hf) s.RootKey s.Generation f.Radio.Epoch
  simp only [Bool.not_true, cond_false, es, r1, r2, Option.bind_some]
  cases r.2
  · exact ⟨_, rfl, rfl, by simp⟩
  · exact ⟨_, rfl, rfl, r3⟩
theorem booB_refl' (b : Bool) : booB b b = true := by simp
theorem lFnExactEavesdrop_ok (n : TNetwork) (hp : preTNetwork n) (l : List TLeakedKey) (hq : preL preTLeakedKey l) (i : Int) (hd : (Lit.int .i64 i).wf = true) : lFnExactEavesdrop n l i = some true := by
  unfold lFnExactEavesdrop
  obtain ⟨r1, a1, b1, c1⟩ := psz_Network n 1048576 hp (by omega) (by omega)
  rcases c1 with ⟨c1, rfl⟩ | ⟨c1, d1, e1⟩
  · simp [a1, c1]
  obtain ⟨r2, a2, b2, c2⟩ := psz_LeakedKeyS l r1 hq (by omega) (by omega)
  rcases c2 with ⟨c2, rfl⟩ | ⟨c2, d2, e2⟩
  · simp [a1, c1, a2, c2]
  have hfl : n.Flights.length ≤ 1048576 := e1.2.2.2.2.1
  have hse : n.Sessions.length ≤ 1048576 := e1.2.2.1.1
  have hby : ∀ f ∈ n.Flights, okB f.Radio.Message.Data := fun f hf => (hp.2.2.2.2.2 f hf).2
  obtain ⟨⟨g, b⟩, h1, h2, h3⟩ := eaves_eq hfl hse hby e2 i
  simp only at h3
  have hr : okL (fun _ => True) g := ⟨by omega, fun _ _ => trivial⟩
  obtain ⟨k', z1, z2, z3⟩ := pz_Network n 1 e1 (by omega) (by omega)
  obtain ⟨k2, y1, y2, y3⟩ := pz_LeakedKeyS l k' e2 (by omega) (by omega)
  have hz : ltB k2 0 = false := lt0_f (by omega)
  have hm2 : ltB (1 + (1 : Int) * (g.length : Int)) 0 = false := lt0_f (by omega)
  have hle : lenEq (marks gByteS 1 g.length 1) g = true := by simp [lenEq, marks_len]
  simp only [a1, c1, a2, c2, pto_Network n e1, pto_LeakedKeyS l e2, h1, h2, peq_ByteS g hr, peq_Network n e1, peq_LeakedKeyS l e2, z1, y1, hz, pmark_ByteS g (by omega), pheld_ByteS g.length (by omega), hle, hm2, eqB_refl, booB_refl', Option.bind_some, cond_true, cond_false, Bool.not_true]
theorem fnExactEavesdrop_fn (x0 : List D) (h0 : WTs [.l [.i .i64, .l [.i .i64]], .l [.i .i64, .i .i64, .i .i64, .i .i64, .i .i64, .i .i64, .i .i64, .i .i64, .i .i64, .b, .i .i64, .i .i64, .l [.i .i64, .l [.i .u8]], .l [.l [.i .u8]]], .l [.i .i64, .i .i64, .i .i64, .i .i64, .i .i64, .i .i64, .i .i64, .l [.i .i64], .i .i64, .i .i64, .i .i64, .i .i64, .i .i64, .i .i64, .i .i64, .i .i64, .i .i64, .i .i64, .i .i64, .i .i64, .i .i64, .i .i64, .i .i64, .l [.l [.i .u8]], .i .i64, .l [.i .i64, .l [.i .u8]], .i .i64, .i .i64, .i .i64, .i .i64], .l [.i .i64, .i .i64, .i .i64, .l [.i .i64, .i .i64]], .l [.i .i64, .b, .b, .i .i64, .i .i64, .i .i64, .i .i64, .i .i64, .i .i64, .i .i64, .i .i64, .i .i64, .i .i64, .i .i64, .i .i64, .i .i64, .i .i64, .i .i64, .i .i64, .l [.i .u8], .i .i64], .i .i64, .i .i64, .i .i64, .i .i64, .i .i64] x0) (x1 : D) (h1 : WT (.l [.i .i64, .l [.i .i64]]) x1) (x2 : D) (h2 : WT (.i .i64) x2) : Fn Tryz.prog 4 [.agg x0, .c x1, .c x2] [rB true] := by
  obtain ⟨a0, rfl, p0⟩ := wtTNetwork h0
  obtain ⟨y1, rfl, l1, w1⟩ := h1.gl
  obtain ⟨a1, rfl, p1⟩ := WTL_map (f := eTLeakedKey) (p := preTLeakedKey) (fun _ h => wtTLeakedKey h) w1
  obtain ⟨a2, rfl, w2⟩ := h2.gi
  exact lFnExactEavesdrop_c (lFnExactEavesdrop_ok a0 p0 a1 ⟨by simpa using l1, p1⟩ a2 w2)
end Go.AM
