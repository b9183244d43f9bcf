/-
  Plain laws on copies, comparisons, sizes and marks.
-/
import Derived.Test.YtafgglkmebkeeaaDoorPu
set_option linter.unusedVariables false
set_option linter.unusedSimpArgs false
namespace Go.AM
attribute [local simp] ltB_self eqB_refl ix_nat
def okL {α : Type} (ok : α → Prop) (xs : List α) : Prop := xs.length ≤ 1048576 ∧ ∀ x ∈ xs, ok x
def preL {α : Type} (pre : α → Prop) (xs : List α) : Prop := xs.length ≤ 9223372036854775807 ∧ ∀ x ∈ xs, pre x
theorem forL_const {α ρ : Type} {body : Unit → α → Option (Step Unit ρ)} {fin : Unit → Option ρ} : ∀ (xs : List α), (∀ x ∈ xs, body () x = some (.next ())) → forL body fin xs () = fin ()
  | [], _ => rfl
  | x :: xs, h => by rw [forL, h x (by simp)]; exact forL_const xs (fun y hy => h y (by simp [hy]))
/-- What a count of the elements answers: -1, or something that is left, and then all is small. -/
def Sz {α : Type} (f : α → Int → Option Int) (ok pre : α → Prop) : Prop :=
  ∀ a left, pre a → 0 ≤ left → left ≤ 1048576 → ∃ r, f a left = some r ∧ r ≤ 1048576 ∧ ((ltB r 0 = true ∧ r = -1) ∨ (ltB r 0 = false ∧ 0 ≤ r ∧ ok a))
theorem lt0_t {r : Int} (h : r < 0) : ltB r 0 = true := by simp [ltB, h]
theorem lt0_f {r : Int} (h : 0 ≤ r) : ltB r 0 = false := by simp [ltB]; omega
/-- A list of flat elements. -/
theorem sz_flat {α : Type} {pre : α → Prop} {f : List α → Int → Option Int} (hf : ∀ xs left, f xs left = bif ltB (WR (left - ((xs.length : Nat) : Int))) 0 then some (-1) else some (WR (left - ((xs.length : Nat) : Int)))) : Sz f (okL fun _ => True) (preL pre) := by
  intro xs left hp h0 h1
  have := hp.1
  rw [hf, WR_in (by omega)]
  by_cases hc : left < xs.length
  · refine ⟨-1, by rw [lt0_t (by omega)]; rfl, by omega, .inl ⟨lt0_t (by omega), rfl⟩⟩
  · refine ⟨left - xs.length, by rw [lt0_f (by omega)]; rfl, by omega, .inr ⟨lt0_f (by omega), by omega, by omega, fun _ _ => trivial⟩⟩
theorem sz_list {α : Type} {e : α → Int → Option Int} {ok pre : α → Prop} {f : List α → Int → Option Int} {L : List α → Int × Int → Option (Step (Int × Int) Int)} (he : Sz e ok pre)
    (hf : ∀ xs left, f xs left = bif ltB (WR (left - ((xs.length : Nat) : Int))) 0 then some (-1) else iter (L xs) FU (WR (left - ((xs.length : Nat) : Int)), 0))
    (hL : ∀ xs v1 v2, L xs (v1, v2) = bif ltB v2 ((xs.length : Nat) : Int) then (Option.bind (ix xs v2) fun x => Option.bind (e x v1) fun r => bif ltB r 0 then dn (some (-1)) else some (.next (r, WR (v2 + 1)))) else dn (some v1)) :
    Sz f (okL ok) (preL pre) := by
  intro xs left hp h0 h1
  have hl := hp.1
  rw [hf, WR_in (by omega)]
  by_cases hc : left < xs.length
  · exact ⟨-1, by rw [lt0_t (by omega)]; rfl, by omega, .inl ⟨lt0_t (by omega), rfl⟩⟩
  · rw [lt0_f (by omega)]
    have hfor := iter_for (step := L xs) xs (fun k (s : Int) => (s, (k : Int))) (fun s x => Option.bind (e x s) fun r => bif ltB r 0 then some (.done (-1)) else some (.next r)) (fun s => some s) (by omega)
      (fun k x s hx hk => by simp [hL, ltB_lt hk, hx, WR_succ (show k < 9223372036854775807 by omega)]) (fun s => by simp [hL]) (left - xs.length)
    have key : ∀ (ys : List α) (s : Int), (∀ y ∈ ys, pre y) → 0 ≤ s → s ≤ 1048576 → ∃ r, forL (fun s x => Option.bind (e x s) fun r => bif ltB r 0 then some (.done (-1)) else some (.next r)) (fun s => some s) ys s = some r ∧ r ≤ 1048576 ∧ ((ltB r 0 = true ∧ r = -1) ∨ (ltB r 0 = false ∧ 0 ≤ r ∧ ∀ y ∈ ys, ok y)) := by
      intro ys
      induction ys with
      | nil => intro s _ h2 h3; exact ⟨s, rfl, h3, .inr ⟨lt0_f h2, h2, by simp⟩⟩
      | cons y ys ih =>
        intro s hy h2 h3
        obtain ⟨r, k1, k2, k3⟩ := he y s (hy y (by simp)) h2 h3
        rw [forL, k1]
        rcases k3 with ⟨k3, rfl⟩ | ⟨k3, k4, k5⟩
        · exact ⟨-1, by simp [k3], by omega, .inl ⟨k3, rfl⟩⟩
        · obtain ⟨q, m1, m2, m3⟩ := ih r (fun z hz => hy z (by simp [hz])) k4 k2
          refine ⟨q, by simpa [k3] using m1, m2, ?_⟩
          rcases m3 with m3 | ⟨m3, m4, m5⟩
          · exact .inl m3
          · exact .inr ⟨m3, m4, fun z hz => by rcases List.mem_cons.1 hz with rfl | hz; exact k5; exact m5 z hz⟩
    obtain ⟨r, m1, m2, m3⟩ := key xs (left - xs.length) hp.2 (by omega) (by omega)
    refine ⟨r, by simpa using hfor.trans m1, m2, ?_⟩
    rcases m3 with m3 | ⟨m3, m4, m5⟩
    · exact .inl m3
    · exact .inr ⟨m3, m4, by omega, m5⟩
theorem to_list {α : Type} {ok : α → Prop} {t : α → Option α} (z : α) {f : List α → Option (List α)} {L : List α → Int × List α → Option (Step (Int × List α) (List α))} {by_ : Nat} (hby : by_ ≤ 100000) (ht : ∀ a, ok a → t a = some a)
    (hf : ∀ xs, f xs = bif mkOk by_ ((xs.length : Nat) : Int) ((xs.length : Nat) : Int) then (Option.bind (iter (L xs) FU (0, List.replicate (((xs.length : Nat) : Int)).toNat z)) fun v => some v) else none)
    (hL : ∀ xs v1 v2, L xs (v1, v2) = bif ltB v1 ((xs.length : Nat) : Int) then (Option.bind (ix xs v1) fun x => Option.bind (t x) fun r => Option.bind (ix v2 v1) fun _ => some (.next (WR (v1 + 1), v2.set v1.toNat r))) else some (.done v2)) :
    ∀ xs, okL ok xs → f xs = some xs := by
  intro xs hx
  have hl := hx.1
  have := iter_copy (step := L xs) id z xs (by omega)
    (fun k x v hx' hv => by
      have hk := (List.getElem?_eq_some_iff.1 hx').1
      simp [hL, ltB_lt hk, hx', ht x (hx.2 x (List.mem_of_getElem? hx')), WR_succ (show k < 9223372036854775807 by omega), List.getElem?_eq_getElem (show k < v.length by omega)])
    (fun v => by simp [hL])
  simp only [List.map_id] at this
  have hm : mkOk by_ ((xs.length : Nat) : Int) ((xs.length : Nat) : Int) = true := by
    simp only [mkOk, decide_eq_true_eq]
    have h1 : by_ * xs.length ≤ 100000 * 1048576 := Nat.mul_le_mul hby hl
    have h2 : ((by_ * xs.length : Nat) : Int) ≤ 104857600000 := by omega
    rw [Int.natCast_mul] at h2
    omega
  rw [hf, hm]
  simp [this]
theorem eq_list {α : Type} {ok : α → Prop} {e : α → α → Option Bool} {f : List α → List α → Option Bool} {L : List α → List α → Int → Option (Step Int Bool)} (he : ∀ a, ok a → e a a = some true)
    (hf : ∀ xs ys, f xs ys = bif !eqB ((xs.length : Nat) : Int) ((ys.length : Nat) : Int) then some false else iter (L xs ys) FU 0)
    (hL : ∀ xs ys v1, L xs ys v1 = bif ltB v1 ((xs.length : Nat) : Int) then (Option.bind (ix xs v1) fun x => Option.bind (ix ys v1) fun y => Option.bind (e x y) fun r => bif !r then dn (some false) else some (.next (WR (v1 + 1)))) else dn (some true)) :
    ∀ xs, okL ok xs → f xs xs = some true := by
  intro xs hx
  have hl := hx.1
  have := iter_for (step := L xs xs) xs (fun k (_ : Unit) => (k : Int)) (fun _ x => Option.bind (e x x) fun r => bif !r then some (.done false) else some (.next ())) (fun _ => some true) (by omega)
    (fun k x s hx' hk => by simp [hL, ltB_lt hk, hx', WR_succ (show k < 9223372036854775807 by omega)]) (fun s => by simp [hL]) ()
  rw [hf, eqB_refl]
  simp only [Bool.not_true, cond_false]
  refine Eq.trans (show iter (L xs xs) FU 0 = _ from this) ?_
  exact forL_const xs (fun x hx' => by simp [he x (hx.2 x hx')])
/-- The marked list. -/
def marks {α : Type} (g : Int → α) (c : Int) : Nat → Int → List α
  | 0, _ => []
  | n + 1, k => g k :: marks g c n (k + c)
theorem marks_len {α : Type} (g : Int → α) (c : Int) : ∀ n k, (marks g c n k).length = n
  | 0, _ => rfl
  | n + 1, k => by simp [marks, marks_len g c n]
theorem marks_at {α : Type} (g : Int → α) (c : Int) : ∀ (n : Nat) (k : Int) (j : Nat), j < n → (marks g c n k)[j]? = some (g (k + c * j))
  | n + 1, k, 0, _ => by simp [marks]
  | n + 1, k, j + 1, h => by
    rw [marks, List.getElem?_cons_succ, marks_at g c n (k + c) j (by omega)]
    congr 2
    rw [Int.natCast_add, Int.mul_add]; omega
theorem mark_list {α : Type} (g : Int → α) (c : Nat) (hc : c ≤ 100) {L : Int × Int × List α → Option (Step (Int × Int × List α) (Int × List α))}
    (hL : ∀ (k : Int) (i : Nat) (v : List α), i < v.length → v.length ≤ 1048576 → 0 ≤ k → k ≤ 1000000000 → L (k, (i : Int), v) = some (.next (k + c, ((i + 1 : Nat) : Int), v.set i (g k))))
    (hE : ∀ (k : Int) (v : List α), L (k, ((v.length : Nat) : Int), v) = some (.done (k, v))) (xs : List α) (hx : xs.length ≤ 1048576) :
    iter L FU (1, 0, xs) = some (1 + (c : Int) * (xs.length : Int), marks g c xs.length 1) := by
  have hcl : ∀ j : Nat, j ≤ xs.length → (c : Int) * j ≤ 104857600 ∧ 0 ≤ (c : Int) * j := fun j hj => by
    have h1 : c * j ≤ 100 * 1048576 := Nat.mul_le_mul hc (by omega)
    have h2 : ((c * j : Nat) : Int) ≤ 104857600 ∧ 0 ≤ ((c * j : Nat) : Int) := by omega
    rwa [Int.natCast_mul] at h2
  have key : ∀ (m n : Nat) (j : Nat), m = xs.length - j → j ≤ xs.length → m < n → iter L n (1 + (c : Int) * j, (j : Int), (marks g c xs.length 1).take j ++ xs.drop j) = some (1 + (c : Int) * (xs.length : Int), marks g c xs.length 1) := by
    intro m
    induction m with
    | zero =>
      intro n j hm hj hn
      cases n with
      | zero => omega
      | succ n =>
        have : j = xs.length := by omega
        subst this
        have hlen : ((marks g c xs.length 1).take xs.length ++ xs.drop xs.length).length = xs.length := by simp [marks_len]
        have := hE (1 + (c : Int) * xs.length) ((marks g c xs.length 1).take xs.length ++ xs.drop xs.length)
        rw [hlen] at this
        rw [iter, this]
        simp [List.take_of_length_le (Nat.le_of_eq (marks_len g c xs.length 1))]
    | succ m ih =>
      intro n j hm hj hn
      cases n with
      | zero => omega
      | succ n =>
        have hlt : j < xs.length := by omega
        have := hcl j hj
        rw [iter, hL _ j _ (by simp [marks_len]; omega) (by simp [marks_len]; omega) (by omega) (by omega)]
        have e : ((marks g c xs.length 1).take j ++ xs.drop j).set j (g (1 + (c : Int) * j)) = (marks g c xs.length 1).take (j + 1) ++ xs.drop (j + 1) := by
          rw [List.set_append_right _ _ (by simp [marks_len]; omega)]
          simp only [List.length_take, marks_len, Nat.min_eq_left hj, Nat.sub_self]
          rw [List.drop_eq_getElem_cons hlt, List.set_cons_zero, List.take_add_one, marks_at g c _ _ j hlt]
          simp
        show iter L n (1 + (c : Int) * j + c, ((j + 1 : Nat) : Int), _) = _
        rw [e, show (1 + (c : Int) * j + c) = 1 + (c : Int) * ((j + 1 : Nat) : Int) from by rw [Int.natCast_add, Int.mul_add]; omega]
        exact ih n (j + 1) (by omega) (by omega) (by omega)
  have := key (xs.length - 0) FU 0 rfl (Nat.zero_le _) (by have := FU_big; omega)
  simpa using this
theorem held_list {α : Type} (g : Int → α) (c : Nat) (hc : c ≤ 100) {L : List α → Int × Int → Option (Step (Int × Int) Int)}
    (hL : ∀ (xs : List α) (k : Int) (i : Nat), xs[i]? = some (g k) → 0 ≤ k → k ≤ 1000000000 → i ≤ 1048576 → L xs (k, (i : Int)) = some (.next (k + c, ((i + 1 : Nat) : Int))))
    (hE : ∀ (xs : List α) (k : Int), L xs (k, ((xs.length : Nat) : Int)) = some (.done k)) (n0 : Nat) (hx : n0 ≤ 1048576) :
    iter (L (marks g c n0 1)) FU (1, 0) = some (1 + (c : Int) * n0) := by
  have hcl : ∀ j : Nat, j ≤ n0 → (c : Int) * j ≤ 104857600 ∧ 0 ≤ (c : Int) * j := fun j hj => by
    have h1 : c * j ≤ 100 * 1048576 := Nat.mul_le_mul hc (by omega)
    have h2 : ((c * j : Nat) : Int) ≤ 104857600 ∧ 0 ≤ ((c * j : Nat) : Int) := by omega
    rwa [Int.natCast_mul] at h2
  have key : ∀ (m n : Nat) (j : Nat), m = n0 - j → j ≤ n0 → m < n → iter (L (marks g c n0 1)) n (1 + (c : Int) * j, (j : Int)) = some (1 + (c : Int) * n0) := by
    intro m
    induction m with
    | zero =>
      intro n j hm hj hn
      cases n with
      | zero => omega
      | succ n =>
        have : j = n0 := by omega
        subst this
        have := hE (marks g c j 1) (1 + (c : Int) * j)
        rw [marks_len] at this
        rw [iter, this]
    | succ m ih =>
      intro n j hm hj hn
      cases n with
      | zero => omega
      | succ n =>
        have := hcl j hj
        rw [iter, hL _ _ j (marks_at g c n0 1 j (by omega)) (by omega) (by omega) (by omega)]
        show iter _ n (1 + (c : Int) * j + c, ((j + 1 : Nat) : Int)) = _
        rw [show (1 + (c : Int) * j + c) = 1 + (c : Int) * ((j + 1 : Nat) : Int) from by rw [Int.natCast_add, Int.mul_add]; omega]
        exact ih n (j + 1) (by omega) (by omega) (by omega)
  have := key (n0 - 0) FU 0 rfl (Nat.zero_le _) (by have := FU_big; omega)
  simpa using this
/-- The wanted elements, one behind the other. -/
def fappB {α β : Type} (by_ : Nat) (p : α → Bool) (f : α → β) (acc : List β) (x : α) : Option (Step (List β) (List β)) :=
  bif p x then (bif apOk by_ (acc ++ [f x]).length then some (.next (acc ++ [f x])) else none) else some (.next acc)
theorem fapp_eq {α β : Type} {by_ : Nat} (hb : by_ ≤ 100000) (p : α → Bool) (f : α → β) : ∀ (xs : List α) (acc : List β), acc.length + xs.length ≤ 1048576 → forL (fappB by_ p f) some xs acc = some (acc ++ (xs.filter p).map f)
  | [], acc, h => by simp [forL]
  | x :: xs, acc, h => by
    simp only [List.length_cons] at h
    rw [forL]
    cases hp : p x with
    | false =>
      rw [List.filter_cons_of_neg (by simp [hp])]
      simpa [fappB, hp] using fapp_eq hb p f xs acc (by omega)
    | true =>
      have ha : apOk by_ (acc ++ [f x]).length = true := by
        have h1 : (acc ++ [f x]).length * by_ ≤ 1048577 * 100000 := Nat.mul_le_mul (by simp; omega) hb
        simp only [apOk, decide_eq_true_eq]
        refine ⟨by omega, by simp; omega⟩
      rw [List.filter_cons_of_pos (by simp [hp])]
      simp only [fappB, hp, ha, cond_true]
      rw [fapp_eq hb p f xs (acc ++ [f x]) (by simp; omega)]
      simp
theorem filt_len {α β : Type} (p : α → Bool) (f : α → β) (xs : List α) : ((xs.filter p).map f).length ≤ xs.length := by simp; exact List.length_filter_le _ _
/-- A loop that counts from lo up to hi. -/
theorem iter_cnt {σ τ ρ : Type} {step : τ → Option (Step τ ρ)} (lo hi : Nat) (hlh : lo ≤ hi) (hhi : hi ≤ 9223372036854775806) (mk : Nat → σ → τ) (body : σ → Nat → Option (Step σ ρ)) (fin : σ → Option ρ)
    (hs : ∀ (k : Nat) (s : σ), lo ≤ k → k < hi → step (mk k s) = stepM (mk (k + 1)) (body s k)) (he : ∀ s, step (mk hi s) = dn (fin s)) (s0 : σ) : iter step FU (mk lo s0) = forL body fin (List.range' lo (hi - lo)) s0 := by
  have := iter_for (step := step) (List.range' lo (hi - lo)) (fun k s => mk (lo + k) s) body fin (by simp; omega)
    (fun k x s hx hk => by
      simp only [List.length_range'] at hk
      have : x = lo + k := by simpa [List.getElem?_range', hk] using hx.symm
      subst this
      exact hs (lo + k) s (by omega) (by omega)) (fun s => by
      rw [List.length_range', show lo + (hi - lo) = hi from by omega]; exact he s) s0
  simpa using this
theorem forL_grow {α β : Type} {m : Nat} {body : List β → α → Option (Step (List β) (List β))} (h : ∀ s x, s.length ≤ m → ∃ s', body s x = some (.next s') ∧ s'.length ≤ s.length + 1) : ∀ (xs : List α) (s : List β), s.length + xs.length ≤ m + 1 → ∃ r, forL body some xs s = some r ∧ r.length ≤ s.length + xs.length
  | [], s, _ => ⟨s, rfl, by simp⟩
  | x :: xs, s, hl => by
    simp only [List.length_cons] at hl
    obtain ⟨s', h1, h2⟩ := h s x (by omega)
    obtain ⟨r, h3, h4⟩ := forL_grow h xs s' (by omega)
    exact ⟨r, by rw [forL, h1]; exact h3, by simp; omega⟩
theorem apOk_small {by_ n : Nat} (hb : by_ ≤ 100000) (hn : n ≤ 1048577) : apOk by_ n = true := by
  have h1 : n * by_ ≤ 1048577 * 100000 := Nat.mul_le_mul hn hb
  simp only [apOk, decide_eq_true_eq]
  omega
def okU8 (n : Int) : Prop := 0 ≤ n ∧ n ≤ 255
theorem wf_u8 {n : Int} (h : (Lit.int .u8 n).wf = true) : okU8 n := by
  simp [Lit.wf, IntKind.min, IntKind.max, IntKind.signed, IntKind.bits] at h
  exact ⟨by omega, by omega⟩
/-- The first place where p holds, or -1. -/
theorem find_rule {α : Type} {L : Int → Option (Step Int Int)} (xs : List α) (p : α → Bool) (hl : xs.length ≤ 9223372036854775806)
    (hs : ∀ (k : Nat) (x : α), xs[k]? = some x → k < xs.length → L (k : Int) = bif p x then some (.done (k : Int)) else some (.next ((k + 1 : Nat) : Int))) (he : L ((xs.length : Nat) : Int) = some (.done (-1))) :
    iter L FU 0 = some (idxF p 0 xs) := by
  have key : ∀ (m n : Nat) (k : Nat), m = xs.length - k → k ≤ xs.length → m < n → iter L n (k : Int) = some (idxF p k (xs.drop k)) := by
    intro m
    induction m with
    | zero =>
      intro n k hm hk hn
      cases n with
      | zero => omega
      | succ n =>
        have : k = xs.length := by omega
        subst this
        rw [iter, he, List.drop_length, idxF]
    | succ m ih =>
      intro n k hm hk hn
      cases n with
      | zero => omega
      | succ n =>
        have hlt : k < xs.length := by omega
        rw [iter, hs k xs[k] (List.getElem?_eq_getElem hlt) hlt, idx_drop hlt]
        cases p xs[k] with
        | true => rfl
        | false => exact ih n (k + 1) (by omega) (by omega) (by omega)
  have := key (xs.length - 0) FU 0 rfl (Nat.zero_le _) (by have := FU_big; omega)
  simpa using this
theorem idx_cases {α : Type} (p : α → Bool) : ∀ (xs : List α) (i : Nat), idxF p (i : Int) xs = -1 ∧ (∀ x ∈ xs, p x = false) ∨ ∃ j : Nat, idxF p (i : Int) xs = ((i + j : Nat) : Int) ∧ ∃ x, xs[j]? = some x ∧ p x = true ∧ ∀ y ∈ xs.take j, p y = false
  | [], i => .inl ⟨rfl, by simp⟩
  | x :: xs, i => by
    rw [idxF]
    cases hp : p x with
    | true => exact .inr ⟨0, by simp, x, rfl, hp, by simp⟩
    | false =>
      rcases idx_cases p xs (i + 1) with ⟨h1, h2⟩ | ⟨j, h1, y, h2, h3, h4⟩
      · exact .inl ⟨by simpa using h1, by simp [hp]; exact h2⟩
      · refine .inr ⟨j + 1, ?_, y, by simpa using h2, h3, by simp [hp]; exact h4⟩
        have : idxF p ((i : Int) + 1) xs = ((i + 1 + j : Nat) : Int) := by simpa using h1
        simp only [cond_false]
        rw [this]; omega
/-- Is there an element? -/
theorem any_rule {α : Type} {L : Int → Option (Step Int Bool)} (xs : List α) (p : α → Bool) (hl : xs.length ≤ 9223372036854775806)
    (hs : ∀ (k : Nat) (x : α), xs[k]? = some x → k < xs.length → L (k : Int) = bif p x then some (.done true) else some (.next ((k + 1 : Nat) : Int))) (he : L ((xs.length : Nat) : Int) = some (.done false)) :
    iter L FU 0 = some (xs.any p) := by
  have := iter_for (step := L) xs (fun k (_ : Unit) => (k : Int)) (fun _ x => bif p x then some (.done true) else some (.next ())) (fun _ => some false) hl
    (fun k x s hx hk => by rw [hs k x hx hk]; cases p x <;> rfl) (fun s => by rw [he]; rfl) ()
  refine Eq.trans (show iter L FU 0 = _ from this) ?_
  have key : ∀ xs : List α, forL (fun (_ : Unit) x => bif p x then some (Step.done true) else some (.next ())) (fun _ => some false) xs () = some (xs.any p) := by
    intro xs
    induction xs with
    | nil => rfl
    | cons x xs ih => rw [forL]; cases hp : p x <;> simp [hp, ih]
  exact key xs
/-- Are all so? -/
theorem all_rule {α : Type} {L : Int → Option (Step Int Bool)} (xs : List α) (p : α → Bool) (hl : xs.length ≤ 9223372036854775806)
    (hs : ∀ (k : Nat) (x : α), xs[k]? = some x → k < xs.length → L (k : Int) = bif p x then some (.next ((k + 1 : Nat) : Int)) else some (.done false)) (he : L ((xs.length : Nat) : Int) = some (.done true)) :
    iter L FU 0 = some (xs.all p) := by
  have := iter_for (step := L) xs (fun k (_ : Unit) => (k : Int)) (fun _ x => bif p x then some (.next ()) else some (.done false)) (fun _ => some true) hl
    (fun k x s hx hk => by rw [hs k x hx hk]; cases p x <;> rfl) (fun s => by rw [he]; rfl) ()
  refine Eq.trans (show iter L FU 0 = _ from this) ?_
  have key : ∀ xs : List α, forL (fun (_ : Unit) x => bif p x then some (.next ()) else some (Step.done false)) (fun _ => some true) xs () = some (xs.all p) := by
    intro xs
    induction xs with
    | nil => rfl
    | cons x xs ih => rw [forL]; cases hp : p x <;> simp [hp, ih]
  exact key xs
end Go.AM
