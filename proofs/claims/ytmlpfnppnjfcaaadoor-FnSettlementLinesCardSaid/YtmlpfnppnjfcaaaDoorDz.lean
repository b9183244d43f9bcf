/-
  Own text: a part of the abstract machine for this seat (Dz). No statement is proved here.
-/
import Derived.Test.YtmlpfnppnjfcaaaDoorAmZb
import Derived.Test.YtmlpfnppnjfcaaaDoorAmQ
import Derived.Test.YtmlpfnppnjfcaaaDoorAmW
import Derived.Test.YtmlpfnppnjfcaaaDoorDal
import Derived.Lib.ItoaLen
import Derived.Lib.Join
set_option linter.unusedVariables false
namespace Go.AM

theorem FU_big : 9223372036854775808 ≤ FU := by unfold FU; omega
/-- Over the elements of a list, with a way out. -/
def forL {α σ ρ : Type} (body : σ → α → Option (Step σ ρ)) (fin : σ → Option ρ) : List α → σ → Option ρ
  | [], s => fin s
  | x :: xs, s => match body s x with
    | some (.next s') => forL body fin xs s'
    | some (.done r) => some r
    | none => none
def stepM {σ τ ρ : Type} (f : σ → τ) : Option (Step σ ρ) → Option (Step τ ρ)
  | some (.next s) => some (.next (f s))
  | some (.done r) => some (.done r)
  | none => none
@[simp] theorem stepM_next {σ τ ρ : Type} (f : σ → τ) (s : σ) : stepM (ρ := ρ) f (some (.next s)) = some (.next (f s)) := rfl
@[simp] theorem stepM_done {σ τ ρ : Type} (f : σ → τ) (r : ρ) : stepM f (some (.done r)) = some (.done r) := rfl
@[simp] theorem stepM_none {σ τ ρ : Type} (f : σ → τ) : stepM (ρ := ρ) f none = none := rfl
@[simp] theorem stepM_cond {σ τ ρ : Type} (f : σ → τ) (b : Bool) (x y : Option (Step σ ρ)) : stepM f (bif b then x else y) = bif b then stepM f x else stepM f y := by cases b <;> rfl
@[simp] theorem stepM_bind {α σ τ ρ : Type} (f : σ → τ) (o : Option α) (k : α → Option (Step σ ρ)) : stepM f (Option.bind o k) = Option.bind o (fun a => stepM f (k a)) := by cases o <;> rfl
@[simp] theorem dn_some {σ ρ : Type} (r : ρ) : dn (σ := σ) (some r) = some (.done r) := rfl
@[simp] theorem dn_none {σ ρ : Type} : dn (σ := σ) (ρ := ρ) none = none := rfl
theorem iter_for {α σ τ ρ : Type} {step : τ → Option (Step τ ρ)} (xs : List α) (mk : Nat → σ → τ) (body : σ → α → Option (Step σ ρ)) (fin : σ → Option ρ) (hl : xs.length ≤ 9223372036854775806)
    (hs : ∀ (k : Nat) (x : α) (s : σ), xs[k]? = some x → k < xs.length → step (mk k s) = stepM (mk (k + 1)) (body s x))
    (he : ∀ s, step (mk xs.length s) = dn (fin s)) (s0 : σ) : iter step FU (mk 0 s0) = forL body fin xs s0 := by
  have key : ∀ (m n : Nat) (s : σ) (k : Nat), m = xs.length - k → k ≤ xs.length → m < n → iter step n (mk k s) = forL body fin (xs.drop k) s := by
    intro m
    induction m with
    | zero =>
      intro n s k hm hk hn
      cases n with
      | zero => omega
      | succ n =>
        have : k = xs.length := by omega
        subst this
        rw [List.drop_length, forL, iter, he]
        cases fin s <;> rfl
    | succ m ih =>
      intro n s k hm hk hn
      cases n with
      | zero => omega
      | succ n =>
        have hlt : k < xs.length := by omega
        rw [List.drop_eq_getElem_cons hlt, forL, iter, hs k xs[k] s (List.getElem?_eq_getElem hlt) hlt]
        cases hb : body s xs[k] with
        | none => rfl
        | some o =>
          cases o with
          | done r => rfl
          | next s' => exact ih n s' (k + 1) (by omega) (by omega) (by omega)
  have := key (xs.length - 0) FU s0 0 rfl (Nat.zero_le _) (by have := FU_big; omega)
  simpa using this
theorem ix_nat {α : Type} (xs : List α) (k : Nat) : ix xs (k : Int) = xs[k]? := by simp [ix, leB]
theorem WR_in {n : Int} (h : -9223372036854775808 ≤ n ∧ n ≤ 9223372036854775807) : WR n = n := wrap_in h
theorem WR_succ {k : Nat} (h : k < 9223372036854775807) : WR ((k : Int) + 1) = ((k + 1 : Nat) : Int) := by rw [WR_in (by omega)]; omega
theorem ltB_nat {a b : Nat} : ltB (a : Int) (b : Int) = decide (a < b) := by simp [ltB]
theorem ltB_lt {a b : Nat} (h : a < b) : ltB (a : Int) (b : Int) = true := by simp [ltB, h]
theorem ltB_self (a : Int) : ltB a a = false := by simp [ltB]
theorem eqB_refl (a : Int) : eqB a a = true := by simp [eqB]
theorem set_at {α : Type} {xs : List α} {k : Nat} {x : α} (h : xs[k]? = some x) (y : α) : (xs.set k y)[k]? = some y := by
  have := (List.getElem?_eq_some_iff.1 h).1
  simp [this]
/-- A copy, element by element. -/
theorem iter_copy {α β : Type} {step : Int × List β → Option (Step (Int × List β) (List β))} (f : α → β) (z : β) (xs : List α) (hl : xs.length ≤ 9223372036854775806)
    (hs : ∀ (k : Nat) (x : α) (v : List β), xs[k]? = some x → v.length = xs.length → step ((k : Int), v) = some (.next (((k + 1 : Nat) : Int), v.set k (f x))))
    (he : ∀ v, step ((xs.length : Nat) , v) = some (.done v)) : iter step FU (0, List.replicate xs.length z) = some (xs.map f) := by
  have key : ∀ (m n : Nat) (k : Nat), m = xs.length - k → k ≤ xs.length → m < n → iter step n ((k : Int), (xs.take k).map f ++ List.replicate (xs.length - k) z) = some (xs.map f) := by
    intro m
    induction m with
    | zero =>
      intro n k hm hk hn
      cases n with
      | zero => omega
      | succ n =>
        have : k = xs.length := by omega
        subst this
        rw [iter, he]
        simp
    | succ m ih =>
      intro n k hm hk hn
      cases n with
      | zero => omega
      | succ n =>
        have hlt : k < xs.length := by omega
        rw [iter, hs k xs[k] _ (List.getElem?_eq_getElem hlt) (by simp; omega)]
        have e : ((xs.take k).map f ++ List.replicate (xs.length - k) z).set k (f xs[k]) = (xs.take (k + 1)).map f ++ List.replicate (xs.length - (k + 1)) z := by
          apply List.ext_getElem?
          intro j
          rw [List.getElem?_set]
          by_cases hj : k = j
          · subst hj
            rw [if_pos rfl, if_pos (by simp; omega), List.getElem?_append_left (by simp; omega)]
            simp [hlt]
          · rw [if_neg hj]
            by_cases h2 : j < k
            · rw [List.getElem?_append_left (by simp; omega), List.getElem?_append_left (by simp; omega)]
              simp [h2, show j < k + 1 by omega]
            · rw [List.getElem?_append_right (by simp; omega), List.getElem?_append_right (by simp; omega)]
              simp only [List.getElem?_replicate, List.length_map, List.length_take, Nat.min_eq_left (Nat.le_of_lt hlt), Nat.min_eq_left (show k + 1 ≤ xs.length from hlt)]
              by_cases h3 : j < xs.length
              · rw [if_pos (by omega), if_pos (by omega)]
              · rw [if_neg (by omega), if_neg (by omega)]
        show iter step n (((k + 1 : Nat) : Int), _) = _
        rw [e]
        exact ih n (k + 1) (by omega) (by omega) (by omega)
  have := key (xs.length - 0) FU 0 rfl (Nat.zero_le _) (by have := FU_big; omega)
  simpa using this
end Go.AM
set_option linter.unusedVariables false
set_option linter.unusedSimpArgs false
namespace Go.AM
attribute [local simp] ltB_self eqB_refl ix_nat
def okL {α : Type} (ok : α → Prop) (xs : List α) : Prop := xs.length ≤ 1048576 ∧ ∀ x ∈ xs, ok x
def preL {α : Type} (pre : α → Prop) (xs : List α) : Prop := xs.length ≤ 9223372036854775807 ∧ ∀ x ∈ xs, pre x
theorem forL_const {α ρ : Type} {body : Unit → α → Option (Step Unit ρ)} {fin : Unit → Option ρ} : ∀ (xs : List α), (∀ x ∈ xs, body () x = some (.next ())) → forL body fin xs () = fin ()
  | [], _ => rfl
  | x :: xs, h => by rw [forL, h x (by simp)]; exact forL_const xs (fun y hy => h y (by simp [hy]))
/-- What a count of the elements answers: -1, or something that is left, and then all is small. -/
def Sz {α : Type} (f : α → Int → Option Int) (ok pre : α → Prop) : Prop :=
  ∀ a left, pre a → 0 ≤ left → left ≤ 1048576 → ∃ r, f a left = some r ∧ r ≤ 1048576 ∧ ((ltB r 0 = true ∧ r = -1) ∨ (ltB r 0 = false ∧ 0 ≤ r ∧ ok a))
theorem lt0_t {r : Int} (h : r < 0) : ltB r 0 = true := by simp [ltB, h]
theorem lt0_f {r : Int} (h : 0 ≤ r) : ltB r 0 = false := by simp [ltB]; omega
/-- A list of flat elements. -/
theorem sz_flat {α : Type} {pre : α → Prop} {f : List α → Int → Option Int} (hf : ∀ xs left, f xs left = bif ltB (WR (left - ((xs.length : Nat) : Int))) 0 then some (-1) else some (WR (left - ((xs.length : Nat) : Int)))) : Sz f (okL fun _ => True) (preL pre) := by
  intro xs left hp h0 h1
  have := hp.1
  rw [hf, WR_in (by omega)]
  by_cases hc : left < xs.length
  · refine ⟨-1, by rw [lt0_t (by omega)]; rfl, by omega, .inl ⟨lt0_t (by omega), rfl⟩⟩
  · refine ⟨left - xs.length, by rw [lt0_f (by omega)]; rfl, by omega, .inr ⟨lt0_f (by omega), by omega, by omega, fun _ _ => trivial⟩⟩
theorem sz_list {α : Type} {e : α → Int → Option Int} {ok pre : α → Prop} {f : List α → Int → Option Int} {L : List α → Int × Int → Option (Step (Int × Int) Int)} (he : Sz e ok pre)
    (hf : ∀ xs left, f xs left = bif ltB (WR (left - ((xs.length : Nat) : Int))) 0 then some (-1) else iter (L xs) FU (WR (left - ((xs.length : Nat) : Int)), 0))
    (hL : ∀ xs v1 v2, L xs (v1, v2) = bif ltB v2 ((xs.length : Nat) : Int) then (Option.bind (ix xs v2) fun x => Option.bind (e x v1) fun r => bif ltB r 0 then dn (some (-1)) else some (.next (r, WR (v2 + 1)))) else dn (some v1)) :
    Sz f (okL ok) (preL pre) := by
  intro xs left hp h0 h1
  have hl := hp.1
  rw [hf, WR_in (by omega)]
  by_cases hc : left < xs.length
  · exact ⟨-1, by rw [lt0_t (by omega)]; rfl, by omega, .inl ⟨lt0_t (by omega), rfl⟩⟩
  · rw [lt0_f (by omega)]
    have hfor := iter_for (step := L xs) xs (fun k (s : Int) => (s, (k : Int))) (fun s x => Option.bind (e x s) fun r => bif ltB r 0 then some (.done (-1)) else some (.next r)) (fun s => some s) (by omega)
      (fun k x s hx hk => by simp [hL, ltB_lt hk, hx, WR_succ (show k < 9223372036854775807 by omega)]) (fun s => by simp [hL]) (left - xs.length)
    have key : ∀ (ys : List α) (s : Int), (∀ y ∈ ys, pre y) → 0 ≤ s → s ≤ 1048576 → ∃ r, forL (fun s x => Option.bind (e x s) fun r => bif ltB r 0 then some (.done (-1)) else some (.next r)) (fun s => some s) ys s = some r ∧ r ≤ 1048576 ∧ ((ltB r 0 = true ∧ r = -1) ∨ (ltB r 0 = false ∧ 0 ≤ r ∧ ∀ y ∈ ys, ok y)) := by
      intro ys
      induction ys with
      | nil => intro s _ h2 h3; exact ⟨s, rfl, h3, .inr ⟨lt0_f h2, h2, by simp⟩⟩
      | cons y ys ih =>
        intro s hy h2 h3
        obtain ⟨r, k1, k2, k3⟩ := he y s (hy y (by simp)) h2 h3
        rw [forL, k1]
        rcases k3 with ⟨k3, rfl⟩ | ⟨k3, k4, k5⟩
        · exact ⟨-1, by simp [k3], by omega, .inl ⟨k3, rfl⟩⟩
        · obtain ⟨q, m1, m2, m3⟩ := ih r (fun z hz => hy z (by simp [hz])) k4 k2
          refine ⟨q, by simpa [k3] using m1, m2, ?_⟩
          rcases m3 with m3 | ⟨m3, m4, m5⟩
          · exact .inl m3
          · exact .inr ⟨m3, m4, fun z hz => by rcases List.mem_cons.1 hz with rfl | hz; exact k5; exact m5 z hz⟩
    obtain ⟨r, m1, m2, m3⟩ := key xs (left - xs.length) hp.2 (by omega) (by omega)
    refine ⟨r, by simpa using hfor.trans m1, m2, ?_⟩
    rcases m3 with m3 | ⟨m3, m4, m5⟩
    · exact .inl m3
    · exact .inr ⟨m3, m4, by omega, m5⟩
theorem to_list {α : Type} {ok : α → Prop} {t : α → Option α} (z : α) {f : List α → Option (List α)} {L : List α → Int × List α → Option (Step (Int × List α) (List α))} {by_ : Nat} (hby : by_ ≤ 100000) (ht : ∀ a, ok a → t a = some a)
    (hf : ∀ xs, f xs = bif mkOk by_ ((xs.length : Nat) : Int) ((xs.length : Nat) : Int) then (Option.bind (iter (L xs) FU (0, List.replicate (((xs.length : Nat) : Int)).toNat z)) fun v => some v) else none)
    (hL : ∀ xs v1 v2, L xs (v1, v2) = bif ltB v1 ((xs.length : Nat) : Int) then (Option.bind (ix xs v1) fun x => Option.bind (t x) fun r => Option.bind (ix v2 v1) fun _ => some (.next (WR (v1 + 1), v2.set v1.toNat r))) else some (.done v2)) :
    ∀ xs, okL ok xs → f xs = some xs := by
  intro xs hx
  have hl := hx.1
  have := iter_copy (step := L xs) id z xs (by omega)
    (fun k x v hx' hv => by
      have hk := (List.getElem?_eq_some_iff.1 hx').1
      simp [hL, ltB_lt hk, hx', ht x (hx.2 x (List.mem_of_getElem? hx')), WR_succ (show k < 9223372036854775807 by omega), List.getElem?_eq_getElem (show k < v.length by omega)])
    (fun v => by simp [hL])
  simp only [List.map_id] at this
  have hm : mkOk by_ ((xs.length : Nat) : Int) ((xs.length : Nat) : Int) = true := by
    simp only [mkOk, decide_eq_true_eq]
    have h1 : by_ * xs.length ≤ 100000 * 1048576 := Nat.mul_le_mul hby hl
    have h2 : ((by_ * xs.length : Nat) : Int) ≤ 104857600000 := by omega
    rw [Int.natCast_mul] at h2
    omega
  rw [hf, hm]
  simp [this]
theorem eq_list {α : Type} {ok : α → Prop} {e : α → α → Option Bool} {f : List α → List α → Option Bool} {L : List α → List α → Int → Option (Step Int Bool)} (he : ∀ a, ok a → e a a = some true)
    (hf : ∀ xs ys, f xs ys = bif !eqB ((xs.length : Nat) : Int) ((ys.length : Nat) : Int) then some false else iter (L xs ys) FU 0)
    (hL : ∀ xs ys v1, L xs ys v1 = bif ltB v1 ((xs.length : Nat) : Int) then (Option.bind (ix xs v1) fun x => Option.bind (ix ys v1) fun y => Option.bind (e x y) fun r => bif !r then dn (some false) else some (.next (WR (v1 + 1)))) else dn (some true)) :
    ∀ xs, okL ok xs → f xs xs = some true := by
  intro xs hx
  have hl := hx.1
  have := iter_for (step := L xs xs) xs (fun k (_ : Unit) => (k : Int)) (fun _ x => Option.bind (e x x) fun r => bif !r then some (.done false) else some (.next ())) (fun _ => some true) (by omega)
    (fun k x s hx' hk => by simp [hL, ltB_lt hk, hx', WR_succ (show k < 9223372036854775807 by omega)]) (fun s => by simp [hL]) ()
  rw [hf, eqB_refl]
  simp only [Bool.not_true, cond_false]
  refine Eq.trans (show iter (L xs xs) FU 0 = _ from this) ?_
  exact forL_const xs (fun x hx' => by simp [he x (hx.2 x hx')])
/-- The marked list. -/
def marks {α : Type} (g : Int → α) (c : Int) : Nat → Int → List α
  | 0, _ => []
  | n + 1, k => g k :: marks g c n (k + c)
theorem marks_len {α : Type} (g : Int → α) (c : Int) : ∀ n k, (marks g c n k).length = n
  | 0, _ => rfl
  | n + 1, k => by simp [marks, marks_len g c n]
theorem marks_at {α : Type} (g : Int → α) (c : Int) : ∀ (n : Nat) (k : Int) (j : Nat), j < n → (marks g c n k)[j]? = some (g (k + c * j))
  | n + 1, k, 0, _ => by simp [marks]
  | n + 1, k, j + 1, h => by
    rw [marks, List.getElem?_cons_succ, marks_at g c n (k + c) j (by omega)]
    congr 2
    rw [Int.natCast_add, Int.mul_add]; omega
theorem mark_list {α : Type} (g : Int → α) (c : Nat) (hc : c ≤ 100) {L : Int × Int × List α → Option (Step (Int × Int × List α) (Int × List α))}
    (hL : ∀ (k : Int) (i : Nat) (v : List α), i < v.length → v.length ≤ 1048576 → 0 ≤ k → k ≤ 1000000000 → L (k, (i : Int), v) = some (.next (k + c, ((i + 1 : Nat) : Int), v.set i (g k))))
    (hE : ∀ (k : Int) (v : List α), L (k, ((v.length : Nat) : Int), v) = some (.done (k, v))) (xs : List α) (hx : xs.length ≤ 1048576) :
    iter L FU (1, 0, xs) = some (1 + (c : Int) * (xs.length : Int), marks g c xs.length 1) := by
  have hcl : ∀ j : Nat, j ≤ xs.length → (c : Int) * j ≤ 104857600 ∧ 0 ≤ (c : Int) * j := fun j hj => by
    have h1 : c * j ≤ 100 * 1048576 := Nat.mul_le_mul hc (by omega)
    have h2 : ((c * j : Nat) : Int) ≤ 104857600 ∧ 0 ≤ ((c * j : Nat) : Int) := by omega
    rwa [Int.natCast_mul] at h2
  have key : ∀ (m n : Nat) (j : Nat), m = xs.length - j → j ≤ xs.length → m < n → iter L n (1 + (c : Int) * j, (j : Int), (marks g c xs.length 1).take j ++ xs.drop j) = some (1 + (c : Int) * (xs.length : Int), marks g c xs.length 1) := by
    intro m
    induction m with
    | zero =>
      intro n j hm hj hn
      cases n with
      | zero => omega
      | succ n =>
        have : j = xs.length := by omega
        subst this
        have hlen : ((marks g c xs.length 1).take xs.length ++ xs.drop xs.length).length = xs.length := by simp [marks_len]
        have := hE (1 + (c : Int) * xs.length) ((marks g c xs.length 1).take xs.length ++ xs.drop xs.length)
        rw [hlen] at this
        rw [iter, this]
        simp [List.take_of_length_le (Nat.le_of_eq (marks_len g c xs.length 1))]
    | succ m ih =>
      intro n j hm hj hn
      cases n with
      | zero => omega
      | succ n =>
        have hlt : j < xs.length := by omega
        have := hcl j hj
        rw [iter, hL _ j _ (by simp [marks_len]; omega) (by simp [marks_len]; omega) (by omega) (by omega)]
        have e : ((marks g c xs.length 1).take j ++ xs.drop j).set j (g (1 + (c : Int) * j)) = (marks g c xs.length 1).take (j + 1) ++ xs.drop (j + 1) := by
          rw [List.set_append_right _ _ (by simp [marks_len]; omega)]
          simp only [List.length_take, marks_len, Nat.min_eq_left hj, Nat.sub_self]
          rw [List.drop_eq_getElem_cons hlt, List.set_cons_zero, List.take_add_one, marks_at g c _ _ j hlt]
          simp
        show iter L n (1 + (c : Int) * j + c, ((j + 1 : Nat) : Int), _) = _
        rw [e, show (1 + (c : Int) * j + c) = 1 + (c : Int) * ((j + 1 : Nat) : Int) from by rw [Int.natCast_add, Int.mul_add]; omega]
        exact ih n (j + 1) (by omega) (by omega) (by omega)
  have := key (xs.length - 0) FU 0 rfl (Nat.zero_le _) (by have := FU_big; omega)
  simpa using this
theorem held_list {α : Type} (g : Int → α) (c : Nat) (hc : c ≤ 100) {L : List α → Int × Int → Option (Step (Int × Int) Int)}
    (hL : ∀ (xs : List α) (k : Int) (i : Nat), xs[i]? = some (g k) → 0 ≤ k → k ≤ 1000000000 → i ≤ 1048576 → L xs (k, (i : Int)) = some (.next (k + c, ((i + 1 : Nat) : Int))))
    (hE : ∀ (xs : List α) (k : Int), L xs (k, ((xs.length : Nat) : Int)) = some (.done k)) (n0 : Nat) (hx : n0 ≤ 1048576) :
    iter (L (marks g c n0 1)) FU (1, 0) = some (1 + (c : Int) * n0) := by
  have hcl : ∀ j : Nat, j ≤ n0 → (c : Int) * j ≤ 104857600 ∧ 0 ≤ (c : Int) * j := fun j hj => by
    have h1 : c * j ≤ 100 * 1048576 := Nat.mul_le_mul hc (by omega)
    have h2 : ((c * j : Nat) : Int) ≤ 104857600 ∧ 0 ≤ ((c * j : Nat) : Int) := by omega
    rwa [Int.natCast_mul] at h2
  have key : ∀ (m n : Nat) (j : Nat), m = n0 - j → j ≤ n0 → m < n → iter (L (marks g c n0 1)) n (1 + (c : Int) * j, (j : Int)) = some (1 + (c : Int) * n0) := by
    intro m
    induction m with
    | zero =>
      intro n j hm hj hn
      cases n with
      | zero => omega
      | succ n =>
        have : j = n0 := by omega
        subst this
        have := hE (marks g c j 1) (1 + (c : Int) * j)
        rw [marks_len] at this
        rw [iter, this]
    | succ m ih =>
      intro n j hm hj hn
      cases n with
      | zero => omega
      | succ n =>
        have := hcl j hj
        rw [iter, hL _ _ j (marks_at g c n0 1 j (by omega)) (by omega) (by omega) (by omega)]
        show iter _ n (1 + (c : Int) * j + c, ((j + 1 : Nat) : Int)) = _
        rw [show (1 + (c : Int) * j + c) = 1 + (c : Int) * ((j + 1 : Nat) : Int) from by rw [Int.natCast_add, Int.mul_add]; omega]
        exact ih n (j + 1) (by omega) (by omega) (by omega)
  have := key (n0 - 0) FU 0 rfl (Nat.zero_le _) (by have := FU_big; omega)
  simpa using this
/-- The wanted elements, one behind the other. -/
def fappB {α β : Type} (by_ : Nat) (p : α → Bool) (f : α → β) (acc : List β) (x : α) : Option (Step (List β) (List β)) :=
  bif p x then (bif apOk by_ (acc ++ [f x]).length then some (.next (acc ++ [f x])) else none) else some (.next acc)
theorem fapp_eq {α β : Type} {by_ : Nat} (hb : by_ ≤ 100000) (p : α → Bool) (f : α → β) : ∀ (xs : List α) (acc : List β), acc.length + xs.length ≤ 1048576 → forL (fappB by_ p f) some xs acc = some (acc ++ (xs.filter p).map f)
  | [], acc, h => by simp [forL]
  | x :: xs, acc, h => by
    simp only [List.length_cons] at h
    rw [forL]
    cases hp : p x with
    | false =>
      rw [List.filter_cons_of_neg (by simp [hp])]
      simpa [fappB, hp] using fapp_eq hb p f xs acc (by omega)
    | true =>
      have ha : apOk by_ (acc ++ [f x]).length = true := by
        have h1 : (acc ++ [f x]).length * by_ ≤ 1048577 * 100000 := Nat.mul_le_mul (by simp; omega) hb
        simp only [apOk, decide_eq_true_eq]
        refine ⟨by omega, by simp; omega⟩
      rw [List.filter_cons_of_pos (by simp [hp])]
      simp only [fappB, hp, ha, cond_true]
      rw [fapp_eq hb p f xs (acc ++ [f x]) (by simp; omega)]
      simp
theorem filt_len {α β : Type} (p : α → Bool) (f : α → β) (xs : List α) : ((xs.filter p).map f).length ≤ xs.length := by simp; exact List.length_filter_le _ _
/-- A loop that counts from lo up to hi. -/
theorem iter_cnt {σ τ ρ : Type} {step : τ → Option (Step τ ρ)} (lo hi : Nat) (hlh : lo ≤ hi) (hhi : hi ≤ 9223372036854775806) (mk : Nat → σ → τ) (body : σ → Nat → Option (Step σ ρ)) (fin : σ → Option ρ)
    (hs : ∀ (k : Nat) (s : σ), lo ≤ k → k < hi → step (mk k s) = stepM (mk (k + 1)) (body s k)) (he : ∀ s, step (mk hi s) = dn (fin s)) (s0 : σ) : iter step FU (mk lo s0) = forL body fin (List.range' lo (hi - lo)) s0 := by
  have := iter_for (step := step) (List.range' lo (hi - lo)) (fun k s => mk (lo + k) s) body fin (by simp; omega)
    (fun k x s hx hk => by
      simp only [List.length_range'] at hk
      have : x = lo + k := by simpa [List.getElem?_range', hk] using hx.symm
      subst this
      exact hs (lo + k) s (by omega) (by omega)) (fun s => by
      rw [List.length_range', show lo + (hi - lo) = hi from by omega]; exact he s) s0
  simpa using this
theorem forL_grow {α β : Type} {m : Nat} {body : List β → α → Option (Step (List β) (List β))} (h : ∀ s x, s.length ≤ m → ∃ s', body s x = some (.next s') ∧ s'.length ≤ s.length + 1) : ∀ (xs : List α) (s : List β), s.length + xs.length ≤ m + 1 → ∃ r, forL body some xs s = some r ∧ r.length ≤ s.length + xs.length
  | [], s, _ => ⟨s, rfl, by simp⟩
  | x :: xs, s, hl => by
    simp only [List.length_cons] at hl
    obtain ⟨s', h1, h2⟩ := h s x (by omega)
    obtain ⟨r, h3, h4⟩ := forL_grow h xs s' (by omega)
    exact ⟨r, by rw [forL, h1]; exact h3, by simp; omega⟩
theorem apOk_small {by_ n : Nat} (hb : by_ ≤ 100000) (hn : n ≤ 1048577) : apOk by_ n = true := by
  have h1 : n * by_ ≤ 1048577 * 100000 := Nat.mul_le_mul hn hb
  simp only [apOk, decide_eq_true_eq]
  omega
def okU8 (n : Int) : Prop := 0 ≤ n ∧ n ≤ 255
theorem wf_u8 {n : Int} (h : (Lit.int .u8 n).wf = true) : okU8 n := by
  simp [Lit.wf, IntKind.min, IntKind.max, IntKind.signed, IntKind.bits] at h
  exact ⟨by omega, by omega⟩
/-- The first place where p holds, or -1. -/
theorem find_rule {α : Type} {L : Int → Option (Step Int Int)} (xs : List α) (p : α → Bool) (hl : xs.length ≤ 9223372036854775806)
    (hs : ∀ (k : Nat) (x : α), xs[k]? = some x → k < xs.length → L (k : Int) = bif p x then some (.done (k : Int)) else some (.next ((k + 1 : Nat) : Int))) (he : L ((xs.length : Nat) : Int) = some (.done (-1))) :
    iter L FU 0 = some (idxF p 0 xs) := by
  have key : ∀ (m n : Nat) (k : Nat), m = xs.length - k → k ≤ xs.length → m < n → iter L n (k : Int) = some (idxF p k (xs.drop k)) := by
    intro m
    induction m with
    | zero =>
      intro n k hm hk hn
      cases n with
      | zero => omega
      | succ n =>
        have : k = xs.length := by omega
        subst this
        rw [iter, he, List.drop_length, idxF]
    | succ m ih =>
      intro n k hm hk hn
      cases n with
      | zero => omega
      | succ n =>
        have hlt : k < xs.length := by omega
        rw [iter, hs k xs[k] (List.getElem?_eq_getElem hlt) hlt, idx_drop hlt]
        cases p xs[k] with
        | true => rfl
        | false => exact ih n (k + 1) (by omega) (by omega) (by omega)
  have := key (xs.length - 0) FU 0 rfl (Nat.zero_le _) (by have := FU_big; omega)
  simpa using this
theorem idx_cases {α : Type} (p : α → Bool) : ∀ (xs : List α) (i : Nat), idxF p (i : Int) xs = -1 ∧ (∀ x ∈ xs, p x = false) ∨ ∃ j : Nat, idxF p (i : Int) xs = ((i + j : Nat) : Int) ∧ ∃ x, xs[j]? = some x ∧ p x = true ∧ ∀ y ∈ xs.take j, p y = false
  | [], i => .inl ⟨rfl, by simp⟩
  | x :: xs, i => by
    rw [idxF]
    cases hp : p x with
    | true => exact .inr ⟨0, by simp, x, rfl, hp, by simp⟩
    | false =>
      rcases idx_cases p xs (i + 1) with ⟨h1, h2⟩ | ⟨j, h1, y, h2, h3, h4⟩
      · exact .inl ⟨by simpa using h1, by simp [hp]; exact h2⟩
      · refine .inr ⟨j + 1, ?_, y, by simpa using h2, h3, by simp [hp]; exact h4⟩
        have : idxF p ((i : Int) + 1) xs = ((i + 1 + j : Nat) : Int) := by simpa using h1
        simp only [cond_false]
        rw [this]; omega
/-- Is there an element? -/
theorem any_rule {α : Type} {L : Int → Option (Step Int Bool)} (xs : List α) (p : α → Bool) (hl : xs.length ≤ 9223372036854775806)
    (hs : ∀ (k : Nat) (x : α), xs[k]? = some x → k < xs.length → L (k : Int) = bif p x then some (.done true) else some (.next ((k + 1 : Nat) : Int))) (he : L ((xs.length : Nat) : Int) = some (.done false)) :
    iter L FU 0 = some (xs.any p) := by
  have := iter_for (step := L) xs (fun k (_ : Unit) => (k : Int)) (fun _ x => bif p x then some (.done true) else some (.next ())) (fun _ => some false) hl
    (fun k x s hx hk => by rw [hs k x hx hk]; cases p x <;> rfl) (fun s => by rw [he]; rfl) ()
  refine Eq.trans (show iter L FU 0 = _ from this) ?_
  have key : ∀ xs : List α, forL (fun (_ : Unit) x => bif p x then some (Step.done true) else some (.next ())) (fun _ => some false) xs () = some (xs.any p) := by
    intro xs
    induction xs with
    | nil => rfl
    | cons x xs ih => rw [forL]; cases hp : p x <;> simp [hp, ih]
  exact key xs
/-- Are all so? -/
theorem all_rule {α : Type} {L : Int → Option (Step Int Bool)} (xs : List α) (p : α → Bool) (hl : xs.length ≤ 9223372036854775806)
    (hs : ∀ (k : Nat) (x : α), xs[k]? = some x → k < xs.length → L (k : Int) = bif p x then some (.next ((k + 1 : Nat) : Int)) else some (.done false)) (he : L ((xs.length : Nat) : Int) = some (.done true)) :
    iter L FU 0 = some (xs.all p) := by
  have := iter_for (step := L) xs (fun k (_ : Unit) => (k : Int)) (fun _ x => bif p x then some (.next ()) else some (.done false)) (fun _ => some true) hl
    (fun k x s hx hk => by rw [hs k x hx hk]; cases p x <;> rfl) (fun s => by rw [he]; rfl) ()
  refine Eq.trans (show iter L FU 0 = _ from this) ?_
  have key : ∀ xs : List α, forL (fun (_ : Unit) x => bif p x then some (.next ()) else some (Step.done false)) (fun _ => some true) xs () = some (xs.all p) := by
    intro xs
    induction xs with
    | nil => rfl
    | cons x xs ih => rw [forL]; cases hp : p x <;> simp [hp, ih]
  exact key xs
end Go.AM
set_option linter.unusedVariables false
namespace Go.AM
/-! marks of which only the number counts -/
def Mk {α : Type} (f : α → Int → Option Int) (ok : α → Prop) (B : Int) : Prop :=
  ∀ a k, ok a → 0 ≤ k → k + B ≤ 9223372036854775807 → ∃ k', f a k = some k' ∧ k ≤ k' ∧ k' ≤ k + B
theorem mk_list {α : Type} {f : List α → Int → Option Int} {L : List α → Int × Int → Option (Step (Int × Int) Int)} {ok : α → Prop} {b B : Int} (hb : 0 ≤ b) (hB : 1048576 * b ≤ B)
    (hf : ∀ xs k, f xs k = Option.bind (iter (L xs) FU (k, 0)) fun r => some r)
    (he : ∀ xs k, L xs (k, ((xs.length : Nat) : Int)) = some (.done k))
    (hs : ∀ (xs : List α) (k : Int) (i : Nat) (x : α), xs[i]? = some x → i < xs.length → xs.length ≤ 1048576 → ok x → 0 ≤ k → k + b ≤ 9223372036854775807 → ∃ k', L xs (k, (i : Int)) = some (.next (k', ((i + 1 : Nat) : Int))) ∧ k ≤ k' ∧ k' ≤ k + b) :
    Mk f (okL ok) B := by
  intro xs k hok h0 h1
  have key : ∀ (m n i : Nat) (k : Int), m = xs.length - i → i ≤ xs.length → m < n → 0 ≤ k → k + m * b ≤ 9223372036854775807 → ∃ k', iter (L xs) n (k, (i : Int)) = some k' ∧ k ≤ k' ∧ k' ≤ k + m * b := by
    intro m
    induction m with
    | zero =>
      intro n i k hm hi hn hk hkb
      cases n with
      | zero => omega
      | succ n =>
        have : i = xs.length := by omega
        subst this
        exact ⟨k, by rw [iter, he], by omega, by omega⟩
    | succ m ih =>
      intro n i k hm hi hn hk hkb
      cases n with
      | zero => omega
      | succ n =>
        have hlt : i < xs.length := by omega
        have hmul : ((m + 1 : Nat) : Int) * b = m * b + b := by rw [Int.natCast_add, Int.add_mul]; simp
        have hmb : 0 ≤ (m : Int) * b := Int.mul_nonneg (by omega) hb
        rw [hmul] at hkb
        obtain ⟨k1, e1, l1, u1⟩ := hs xs k i xs[i] (List.getElem?_eq_getElem hlt) hlt hok.1 (hok.2 _ (List.getElem_mem hlt)) hk (by omega)
        obtain ⟨k2, e2, l2, u2⟩ := ih n (i + 1) k1 (by omega) (by omega) (by omega) (by omega) (by omega)
        exact ⟨k2, by rw [iter, e1]; exact e2, by omega, by rw [hmul]; omega⟩
  have hlb : (xs.length : Int) * b ≤ 1048576 * b := Int.mul_le_mul_of_nonneg_right (by have := hok.1; omega) hb
  obtain ⟨k', e, l, u⟩ := key xs.length FU 0 k (by omega) (by omega) (by have := FU_big; have := hok.1; omega) h0 (by omega)
  exact ⟨k', by rw [hf]; show Option.bind (iter (L xs) FU (k, ((0 : Nat) : Int))) _ = _; rw [e]; rfl, l, by omega⟩
/-- Over the elements, all must be so; then the answer is c. -/
theorem allK {α : Type} {L : Int → Option (Step Int Bool)} (xs : List α) (p : Nat → α → Bool) (c : Option Bool) (hl : xs.length ≤ 9223372036854775806)
    (hs : ∀ (k : Nat) (x : α), xs[k]? = some x → k < xs.length → L (k : Int) = bif p k x then some (.next ((k + 1 : Nat) : Int)) else some (.done false)) (he : L ((xs.length : Nat) : Int) = dn c) :
    iter L FU 0 = bif xs.zipIdx.all (fun y => p y.2 y.1) then c else some false := by
  have := iter_for (step := L) xs.zipIdx (fun k (_ : Unit) => (k : Int)) (fun _ y => bif p y.2 y.1 then some (.next ()) else some (.done false)) (fun _ => c) (by simpa using hl)
    (fun k y s hy hk => by
      have hk' : k < xs.length := by simpa using hk
      have : y = (xs[k], k) := by rw [List.getElem?_eq_getElem hk] at hy; simpa using hy.symm
      subst this
      rw [hs k xs[k] (List.getElem?_eq_getElem hk') hk']; cases p k xs[k] <;> rfl) (fun s => by rw [List.length_zipIdx, he]) ()
  refine Eq.trans (show iter L FU 0 = _ from this) ?_
  have key : ∀ ys : List (α × Nat), forL (fun (_ : Unit) y => bif p y.2 y.1 then some (.next ()) else some (Step.done false)) (fun _ => c) ys () = bif ys.all (fun y => p y.2 y.1) then c else some false := by
    intro ys
    induction ys with
    | nil => rfl
    | cons x xs ih => rw [forL]; cases hp : p x.2 x.1 <;> simp [hp, ih]
  exact key _
def inR (n a b : Int) : Bool := leB a n && leB n b
theorem inR_iff {n a b : Int} : inR n a b = true ↔ a ≤ n ∧ n ≤ b := by simp [inR, leB]
theorem inR_and (i : Int) (m n : Nat) : (inR i 0 ((m : Int) - 1) && inR i 0 ((n : Int) - 1)) = inR i 0 ((if (n : Int) < m then (n : Int) else m) - 1) := by
  rw [Bool.eq_iff_iff, Bool.and_eq_true, inR_iff, inR_iff, inR_iff]
  split <;> omega
theorem WR_pred {n : Nat} (h : n ≤ 1048576) : WR ((n : Int) - 1) = (n : Int) - 1 := WR_in (by omega)
theorem ix_in {α : Type} {xs : List α} {i : Int} (h0 : 0 ≤ i) (h1 : i < xs.length) : ∃ x, x ∈ xs ∧ ix xs i = some x := by
  obtain ⟨k, rfl⟩ := Int.eq_ofNat_of_zero_le h0
  have hk : k < xs.length := by omega
  exact ⟨xs[k], List.getElem_mem hk, by rw [ix_nat, List.getElem?_eq_getElem hk]⟩
theorem booB_refl (b : Bool) : booB b b = true := by simp
end Go.AM
set_option linter.unusedVariables false
namespace Go.AM
/-- A number within its kind's range. -/
def rgI (k : IntKind) (n : Int) : Prop := (Lit.int k n).wf = true
theorem WTs.cut {s : Sh} {ss : List Sh} {x : D} {xs : List D} (h : WTs (s :: ss) (x :: xs)) : WT s x ∧ WTs ss xs := by
  cases h with | cons h h' => exact ⟨h, h'⟩
theorem WT.rg {k : IntKind} {n : Int} (h : WT (.i k) (.i k n)) : rgI k n := by
  cases h with | i h => exact h
theorem WTL_mem {α : Type} {e : List Sh} {f : α → List D} : ∀ {xs : List α}, WTL e (xs.map f) → ∀ x ∈ xs, WTs e (f x)
  | [], _, x, hx => by cases hx
  | y :: ys, h, x, hx => by
    cases h with
    | cons h1 h2 =>
      rcases List.mem_cons.1 hx with rfl | hx
      · exact h1
      · exact WTL_mem h2 x hx
theorem WT.rl {α : Type} {e : List Sh} {f : α → List D} {xs : List α} (h : WT (.l e) (.l (xs.map f))) : ∀ x ∈ xs, WTs e (f x) := by
  cases h with | l hl h => exact WTL_mem h
theorem rg64 {n : Int} (h : rgI .i64 n) : -9223372036854775808 ≤ n ∧ n ≤ 9223372036854775807 := wf_i64 h
end Go.AM
set_option linter.unusedVariables false
set_option linter.unusedSimpArgs false
namespace Go.AM
/-! what a partial result is, if it is -/
def Wp {α : Type} (m : Option α) (Q : α → Prop) : Prop := match m with
  | some a => Q a
  | none => False
theorem Wp.ex {α : Type} {m : Option α} {Q : α → Prop} (h : Wp m Q) : ∃ a, m = some a ∧ Q a := by
  cases m with
  | none => exact h.elim
  | some a => exact ⟨a, rfl, h⟩
theorem Wp.of {α : Type} {m : Option α} {Q : α → Prop} {a : α} (h : m = some a) (q : Q a) : Wp m Q := by subst h; exact q
theorem Wp.some {α : Type} {a : α} {Q : α → Prop} (h : Q a) : Wp (some a) Q := h
theorem Wp.bind {α β : Type} {m : Option α} {k : α → Option β} {Q : β → Prop} (h : Wp m (fun a => Wp (k a) Q)) : Wp (Option.bind m k) Q := by
  cases m with
  | none => exact h.elim
  | some a => exact h
theorem Wp.mono {α : Type} {m : Option α} {P Q : α → Prop} (h : Wp m P) (k : ∀ a, P a → Q a) : Wp m Q := by
  cases m with
  | none => exact h.elim
  | some a => exact k a h
theorem Wp.call {α β : Type} {m : Option α} {k : α → Option β} {P : α → Prop} {Q : β → Prop} (h : Wp m P) (hk : ∀ a, P a → Wp (k a) Q) : Wp (Option.bind m k) Q := Wp.bind (h.mono hk)
theorem Wp.eq {α β : Type} {m : Option α} {k : α → Option β} {a : α} {Q : β → Prop} (h : m = .some a) (hk : Wp (k a) Q) : Wp (Option.bind m k) Q := by subst h; exact hk
theorem Wp.cond {α : Type} {b : Bool} {x y : Option α} {Q : α → Prop} (h1 : b = true → Wp x Q) (h0 : b = false → Wp y Q) : Wp (bif b then x else y) Q := by
  cases b
  · exact h0 rfl
  · exact h1 rfl
theorem Wp.ok {α : Type} {b : Bool} {x : Option α} {Q : α → Prop} (hb : b = true) (h : Wp x Q) : Wp (bif b then x else none) Q := by subst hb; exact h
theorem Wp.iter {σ ρ : Type} {step : σ → Option (Step σ ρ)} {Q : ρ → Prop} (I : σ → Prop) (μ : σ → Nat) (h : ∀ x, I x → Wp (step x) (fun s => match s with | .next x' => I x' ∧ μ x' < μ x | .done r => Q r)) :
    ∀ (n : Nat) (x : σ), I x → μ x < n → Wp (AM.iter step n x) Q
  | 0, _, _, h => by omega
  | n + 1, x, hI, hn => by
    obtain ⟨s, e, hs⟩ := (h x hI).ex
    rw [AM.iter, e]
    cases s with
    | next x' => exact Wp.iter I μ h n x' hs.1 (by have := hs.2; omega)
    | done r => exact hs
theorem Wp.iterF {σ ρ : Type} {step : σ → Option (Step σ ρ)} {Q : ρ → Prop} (I : σ → Prop) (μ : σ → Nat) {x : σ} (hI : I x) (hn : μ x ≤ 1000000000000) (h : ∀ x, I x → Wp (step x) (fun s => match s with | .next x' => I x' ∧ μ x' < μ x | .done r => Q r)) : Wp (AM.iter step FU x) Q :=
  Wp.iter I μ h FU x hI (by have := FU_big; omega)
theorem Wp.dn {σ ρ : Type} {m : Option ρ} {Q : Step σ ρ → Prop} (h : Wp m (fun r => Q (.done r))) : Wp (AM.dn m) Q := by
  cases m with
  | none => exact h.elim
  | some r => exact h
theorem Wp.ix {α β : Type} {xs : List α} {i : Int} {k : α → Option β} {Q : β → Prop} (h0 : 0 ≤ i) (h1 : i < xs.length) (hk : ∀ x, x ∈ xs → xs[i.toNat]? = .some x → Wp (k x) Q) : Wp (Option.bind (AM.ix xs i) k) Q := by
  have hl : i.toNat < xs.length := by omega
  have hx : xs[i.toNat]? = .some xs[i.toNat] := List.getElem?_eq_getElem hl
  refine Wp.eq (a := xs[i.toNat]) ?_ (hk _ (List.getElem_mem hl) hx)
  unfold AM.ix
  rw [show leB 0 i = true from by simp [leB, h0]]
  exact hx
theorem ltBt {a b : Int} (h : ltB a b = true) : a < b := ltB_t.1 h
theorem ltBf {a b : Int} (h : ltB a b = false) : b ≤ a := ltB_f.1 h
theorem leBt {a b : Int} (h : leB a b = true) : a ≤ b := leB_t.1 h
theorem leBf {a b : Int} (h : leB a b = false) : b < a := leB_f.1 h
theorem eqBt {a b : Int} (h : eqB a b = true) : a = b := eqB_t.1 h
theorem eqBf {a b : Int} (h : eqB a b = false) : a ≠ b := eqB_f.1 h
theorem apOk_in {b n : Nat} (h : n * b ≤ 140737488355328) (h' : n ≤ 9223372036854775807) : apOk b n = true := by simp [apOk, h, h']
end Go.AM
set_option linter.unusedVariables false
set_option linter.unusedSimpArgs false
namespace Go.AM
open Go.Proofs
attribute [local simp] ltB_self eqB_refl ix_nat
/-! what is drawn -/
theorem and_nn (x : Int) (m : Nat) (hm : m < 9223372036854775808) : 0 ≤ bAnd .i64 x (m : Int) ∧ bAnd .i64 x (m : Int) ≤ m := by
  unfold bAnd
  have h1 : (BitVec.ofInt IntKind.i64.bits x &&& BitVec.ofInt IntKind.i64.bits (m : Int)).toNat ≤ m := by
    rw [BitVec.toNat_and]
    refine Nat.le_trans Nat.and_le_right ?_
    show (BitVec.ofInt 64 (m : Int)).toNat ≤ m
    rw [BitVec.toNat_ofInt]
    omega
  rw [wrap_in (by omega)]
  omega
structure curOK (c : Tl1Cur) : Prop where
  l : c.fb.length ≤ 1048576
  u : ∀ x ∈ c.fb, okU8 x
  a : 0 ≤ c.fi
  b : c.fi ≤ c.fb.length
theorem byte_ok {c : Tl1Cur} (h : curOK c) : ∃ v c', sl1Byte c = some (v, c') ∧ 0 ≤ v ∧ v ≤ 255 ∧ curOK c' := by
  unfold sl1Byte
  have := h.l
  have ha := h.a
  have hb := h.b
  by_cases hi : c.fi < c.fb.length
  · obtain ⟨x, hx, e⟩ := ix_in h.a hi
    rw [show ltB c.fi ((c.fb.length : Nat) : Int) = true from by simp [ltB, hi]]
    simp only [cond_true, e, Option.bind_some]
    refine ⟨_, _, rfl, (and_nn _ 255 (by omega)).1, (and_nn _ 255 (by omega)).2, ⟨h.l, h.u, ?_, ?_⟩⟩
    · show 0 ≤ WR (c.fi + 1); rw [WR_in (by omega)]; omega
    · show WR (c.fi + 1) ≤ (c.fb.length : Int); rw [WR_in (by omega)]; omega
  · rw [show ltB c.fi ((c.fb.length : Nat) : Int) = false from by simp [ltB]; omega]
    simp only [cond_false, Option.bind_some]
    exact ⟨_, _, rfl, (and_nn _ 255 (by omega)).1, (and_nn _ 255 (by omega)).2, ⟨h.l, h.u, h.a, h.b⟩⟩
theorem tmod_in {v n : Int} (hv : 0 ≤ v) (hn : 0 < n) : 0 ≤ Int.tmod v n ∧ Int.tmod v n < n := by
  rw [Int.tmod_eq_emod_of_nonneg hv]
  exact ⟨Int.emod_nonneg _ (by omega), Int.emod_lt_of_pos _ hn⟩
theorem below_ok {c : Tl1Cur} (h : curOK c) {n : Int} (hn : 1 ≤ n) : ∃ v c', sl1Below c n = some (v, c') ∧ 0 ≤ v ∧ v < n ∧ curOK c' := by
  unfold sl1Below
  rw [show leB n 0 = false from by simp [leB]; omega]
  have hz : (!eqB n 0) = true := by simp [eqB]; omega
  simp only [cond_false, hz, cond_true]
  by_cases h2 : n ≤ 256
  · rw [show leB n 256 = true from by simp [leB, h2]]
    obtain ⟨v, c', e, h0, h1, hc⟩ := byte_ok h
    have := tmod_in h0 (show 0 < n by omega)
    simp only [cond_true, e, Option.bind_some]
    exact ⟨_, _, rfl, this.1, this.2, hc⟩
  · rw [show leB n 256 = false from by simp [leB]; omega]
    obtain ⟨v, c1, e, h0, h1, hc⟩ := byte_ok h
    obtain ⟨v2, c2, e2, h02, h12, hc2⟩ := byte_ok hc
    obtain ⟨v3, c3, e3, h03, h13, hc3⟩ := byte_ok hc2
    simp only [cond_false, e, e2, e3, Option.bind_some]
    rw [WR_in (n := v * 65536) (by omega), WR_in (n := v2 * 256) (by omega), WR_in (n := v * 65536 + v2 * 256) (by omega), WR_in (n := v * 65536 + v2 * 256 + v3) (by omega)]
    have := tmod_in (v := v * 65536 + v2 * 256 + v3) (by omega) (show 0 < n by omega)
    exact ⟨_, _, rfl, this.1, this.2, hc3⟩
theorem once_ok {c : Tl1Cur} (h : curOK c) {n : Int} (hn : 1 ≤ n) : ∃ v c', sl1Once c n = some (v, c') ∧ curOK c' := by
  obtain ⟨v, c', e, _, _, hc⟩ := below_ok h hn
  exact ⟨_, _, by rw [sl1Once, e]; rfl, hc⟩
theorem new_ok {xs : List Int} (hl : xs.length ≤ 1048576) (hu : ∀ x ∈ xs, okU8 x) : ∃ c, sl1New xs = some c ∧ curOK c ∧ c.fb = xs := by
  have key : ∀ (m n k : Nat) (v : Int), m = xs.length - k → k ≤ xs.length → m < n → ∃ r, iter (sl1New_L1 xs) n (v, (k : Int)) = some r := by
    intro m
    induction m with
    | zero =>
      intro n k v hm hk hn
      cases n with
      | zero => omega
      | succ n =>
        have : k = xs.length := by omega
        subst this
        exact ⟨v, by rw [iter]; simp [sl1New_L1]⟩
    | succ m ih =>
      intro n k v hm hk hn
      cases n with
      | zero => omega
      | succ n =>
        have hlt : k < xs.length := by omega
        rw [iter]
        simp only [sl1New_L1, ltB_lt hlt, cond_true, Option.bind_some, ix_nat, List.getElem?_eq_getElem hlt, WR_succ (show k < 9223372036854775807 by omega)]
        cases ltB (k : Int) 4000
        · exact ⟨v, rfl⟩
        · exact ih n (k + 1) _ (by omega) (by omega) (by omega)
  obtain ⟨r, hr⟩ := key xs.length FU 0 (WR (193017 + ((xs.length : Nat) : Int))) (by omega) (by omega) (by have := FU_big; omega)
  refine ⟨⟨xs, 0, r⟩, ?_, ⟨hl, hu, Int.le_refl 0, Int.natCast_nonneg _⟩, rfl⟩
  rw [sl1New, show iter (sl1New_L1 xs) FU (WR (193017 + ((xs.length : Nat) : Int)), 0) = some r from hr]
  rfl
end Go.AM
namespace Go.AM
attribute [local simp] ltB_self eqB_refl ix_nat
theorem wBelow {c : Tl1Cur} (h : curOK c) {n : Int} (hn : 1 ≤ n) : Wp (sl1Below c n) (fun r => curOK r.2 ∧ 0 ≤ r.1 ∧ r.1 < n) := by
  obtain ⟨v, c', e, h0, h1, hc⟩ := below_ok h hn
  exact Wp.of e ⟨hc, h0, h1⟩
theorem wOnce {c : Tl1Cur} (h : curOK c) {n : Int} (hn : 1 ≤ n) : Wp (sl1Once c n) (fun r => curOK r.2) := by
  obtain ⟨v, c', e, hc⟩ := once_ok h hn
  exact Wp.of e hc
theorem wInt {c : Tl1Cur} (h : curOK c) {xs : List Int} (hx : xs ≠ []) : Wp (sl1Int c xs) (fun r => curOK r.2 ∧ r.1 ∈ xs) := by
  have hl : 0 < xs.length := List.length_pos_iff.2 hx
  unfold sl1Int
  refine Wp.call (wBelow h (by omega)) fun r hr => ?_
  exact Wp.ix hr.2.1 hr.2.2 fun x hm _ => Wp.some ⟨hr.1, hm⟩
theorem wDeal {c : Tl1Cur} (h : curOK c) : Wp (sl19Deal c) (fun r => curOK r.2) := by
  unfold sl19Deal
  exact Wp.call (wBelow h (by omega)) fun r1 h1 => Wp.call (wBelow h1.1 (by omega)) fun r2 h2 => Wp.call (wBelow h2.1 (by omega)) fun r3 h3 => Wp.call (wInt h3.1 (by simp)) fun r4 h4 => Wp.some h4.1
theorem w19Any {c : Tl1Cur} (h : curOK c) : Wp (sl19Any c) (fun r => curOK r.2) := by
  unfold sl19Any
  refine Wp.call (wDeal h) fun r1 h1 => Wp.call (wBelow h1 (by omega)) fun r2 h2 => ?_
  refine Wp.call (P := fun x => curOK ⟨x.1, x.2.1, x.2.2.1⟩) ?_ fun x hx => Wp.some hx
  refine Wp.cond (fun _ => Wp.call (wInt h2.1 (by simp)) fun r8 h8 => Wp.some h8.1) (fun _ => ?_)
  refine Wp.call (P := fun x => curOK ⟨x.1, x.2.1, x.2.2.1⟩) ?_ fun x hx => Wp.some hx
  refine Wp.cond (fun _ => Wp.call (wInt h2.1 (by simp)) fun r8 h8 => Wp.some h8.1) (fun _ => ?_)
  refine Wp.call (P := fun x => curOK ⟨x.1, x.2.1, x.2.2.1⟩) ?_ fun x hx => Wp.some hx
  exact Wp.cond (fun _ => Wp.call (wInt h2.1 (by simp)) fun r8 h8 => Wp.some h8.1) (fun _ => Wp.some h2.1)
theorem wAgreements {c : Tl1Cur} (h : curOK c) : Wp (sl37Agreements c) (fun r => curOK r.2 ∧ r.1.length ≤ 6) := by
  unfold sl37Agreements
  refine Wp.call (wBelow h (by omega)) fun r1 h1 => ?_
  refine Wp.call (P := fun x => curOK ⟨x.1, x.2.1, x.2.2.1⟩ ∧ x.2.2.2.length ≤ 5) ?_ fun x hx => ?_
  · refine Wp.iterF (fun x => (0 ≤ x.1 ∧ x.1 ≤ 5) ∧ curOK ⟨x.2.1, x.2.2.1, x.2.2.2.1⟩ ∧ (x.2.2.2.2.length : Int) + x.1 ≤ 5) (fun x => x.1.toNat) ⟨⟨by simp only; omega, by simp only; omega⟩, h1.1, by simp only [List.length_nil]; omega⟩ (by simp only; omega) ?_
    rintro ⟨v4, v5, v6, v7, v8⟩ ⟨⟨i0, i1⟩, i2, i3⟩
    simp only at i0 i1 i2 i3
    simp only [sl37Agreements_L1]
    refine Wp.cond (fun hb => ?_) (fun hb => Wp.some ⟨i2, by show v8.length ≤ 5; omega⟩)
    have hb := ltBt hb
    refine Wp.call (wDeal i2) fun r15 h15 => Wp.ok (apOk_in (by simp; omega) (by simp; omega)) (Wp.some ⟨⟨⟨?_, ?_⟩, h15, ?_⟩, ?_⟩)
    all_goals simp only [WR_in (show -9223372036854775808 ≤ v4 - 1 ∧ v4 - 1 ≤ 9223372036854775807 by omega), List.length_append, List.length_cons, List.length_nil]
    all_goals omega
  · obtain ⟨y1, y2, y3, y4⟩ := x
    refine Wp.call (wOnce hx.1 (by omega)) fun r13 h13 => ?_
    have hl : y4.length ≤ 5 := hx.2
    refine Wp.call (P := fun x => curOK ⟨x.1, x.2.1, x.2.2.1⟩ ∧ x.2.2.2.length ≤ 6) ?_ fun x hx => Wp.some hx
    exact Wp.cond (fun _ => Wp.call (w19Any h13) fun r8 h8 => Wp.ok (apOk_in (by simp; omega) (by simp; omega)) (Wp.some ⟨h8, by simp; omega⟩)) (fun _ => Wp.some ⟨h13, by simp only; omega⟩)
end Go.AM
namespace Go.AM
open Go.Proofs
attribute [local simp] ltB_self eqB_refl ix_nat
theorem iInRange_eq (n a b : Int) : iInRange n a b = some (inR n a b) := by unfold iInRange inR; cases leB a n <;> rfl
theorem sl1In_eq (n a b : Int) : sl1In n a b = some (inR n a b) := by unfold sl1In inR; cases leB a n <;> rfl
def vRec (r : TUsageRecord) : Bool := inR r.Network 0 3 && (leB 0 r.SessionID && (inR r.Seq 1 100000 && inR r.Bytes 0 100000))
theorem iIsValidRecord_eq (r : TUsageRecord) : iIsValidRecord r = some (vRec r) := by
  simp only [iIsValidRecord, iInRange_eq, vRec, Option.bind_some]; cases inR r.Network 0 3 <;> cases leB 0 r.SessionID <;> cases inR r.Seq 1 100000 <;> rfl
theorem sIsValidRecord_eq (r : TUsageRecord) : sIsValidRecord r = some (vRec r) := by
  simp only [sIsValidRecord, sl1In_eq, vRec, Option.bind_some]; cases inR r.Network 0 3 <;> cases leB 0 r.SessionID <;> cases inR r.Seq 1 100000 <;> rfl
def recP (r x : TUsageRecord) : Bool := eqB x.Network r.Network && (eqB x.SessionID r.SessionID && eqB x.Seq r.Seq)
theorem iFindRecord_eq {xs : List TUsageRecord} (hl : xs.length ≤ 1048576) (r : TUsageRecord) : iFindRecord xs r = some (idxF (recP r) 0 xs) :=
  find_rule xs (recP r) (by omega) (fun k x hx hk => by
    simp only [iFindRecord_L1, isameRecord, ltB_lt hk, ix_nat, hx, WR_succ (show k < 9223372036854775807 by omega), recP, Option.bind_some, cond_true]
    cases eqB x.Network r.Network <;> cases eqB x.SessionID r.SessionID <;> cases eqB x.Seq r.Seq <;> rfl) (by simp [iFindRecord_L1])
theorem sFindRecord_eq {xs : List TUsageRecord} (hl : xs.length ≤ 1048576) (r : TUsageRecord) : sFindRecord xs r = some (idxF (recP r) 0 xs) :=
  find_rule xs (recP r) (by omega) (fun k x hx hk => by
    simp only [sFindRecord_L1, ltB_lt hk, ix_nat, hx, WR_succ (show k < 9223372036854775807 by omega), recP, Option.bind_some, cond_true]
    cases eqB x.Network r.Network <;> cases eqB x.SessionID r.SessionID <;> cases eqB x.Seq r.Seq <;> rfl) (by simp [sFindRecord_L1])
theorem recP_refl (r : TUsageRecord) : recP r r = true := by simp [recP]
/-- The first place of a record is its own just where no earlier one is like it. -/
theorem first_iff {xs : List TUsageRecord} {k : Nat} {x : TUsageRecord} (hx : xs[k]? = some x) : (!eqB (idxF (recP x) 0 xs) (k : Int)) = leB 0 (idxF (recP x) 0 (xs.take k)) := by
  have hk := (List.getElem?_eq_some_iff.1 hx).1
  rw [idx_nonneg (by omega)]
  rcases idx_cases (recP x) xs 0 with ⟨h1, h2⟩ | ⟨j, h1, y, h2, h3, h4⟩
  · have := h2 x (List.mem_of_getElem? hx); rw [recP_refl] at this; cases this
  · have h1' : idxF (recP x) 0 xs = (j : Int) := by simpa using h1
    rw [h1']
    by_cases hjk : j = k
    · subst hjk
      rw [eqB_refl]
      symm
      rw [Bool.not_true, Bool.eq_false_iff]
      intro ha
      obtain ⟨z, hz1, hz2⟩ := List.any_eq_true.1 ha
      rw [h4 z hz1] at hz2; cases hz2
    · have hlt : j < k := by
        rcases Nat.lt_or_gt_of_ne hjk with h | h
        · exact h
        · have : x ∈ xs.take j := List.mem_of_getElem? (i := k) (by rw [List.getElem?_take, if_pos h]; exact hx)
          have := h4 x this; rw [recP_refl] at this; cases this
      rw [show eqB (j : Int) (k : Int) = false from by simp [eqB]; omega]
      symm
      rw [Bool.not_false, List.any_eq_true]
      exact ⟨y, List.mem_of_getElem? (i := j) (by rw [List.getElem?_take, if_pos hlt]; exact h2), h3⟩
/-- Over the elements, all must be so; then the answer is c. -/
theorem allk_rule {α : Type} {L : Int → Option (Step Int Bool)} (xs : List α) (p : Nat → α → Bool) (c : Option Bool) (hl : xs.length ≤ 9223372036854775806)
    (hs : ∀ (k : Nat) (x : α), xs[k]? = some x → k < xs.length → L (k : Int) = bif p k x then some (.next ((k + 1 : Nat) : Int)) else some (.done false)) (he : L ((xs.length : Nat) : Int) = dn c) :
    iter L FU 0 = bif xs.zipIdx.all (fun y => p y.2 y.1) then c else some false := by
  have := iter_for (step := L) xs.zipIdx (fun k (_ : Unit) => (k : Int)) (fun _ y => bif p y.2 y.1 then some (.next ()) else some (.done false)) (fun _ => c) (by simpa using hl)
    (fun k y s hy hk => by
      have hk' : k < xs.length := by simpa using hk
      have : y = (xs[k], k) := by rw [List.getElem?_eq_getElem hk] at hy; simpa using hy.symm
      subst this
      rw [hs k xs[k] (List.getElem?_eq_getElem hk') hk']; cases p k xs[k] <;> rfl) (fun s => by rw [List.length_zipIdx, he]) ()
  refine Eq.trans (show iter L FU 0 = _ from this) ?_
  have key : ∀ ys : List (α × Nat), forL (fun (_ : Unit) y => bif p y.2 y.1 then some (.next ()) else some (Step.done false)) (fun _ => c) ys () = bif ys.all (fun y => p y.2 y.1) then c else some false := by
    intro ys
    induction ys with
    | nil => rfl
    | cons x xs ih => rw [forL]; cases hp : p x.2 x.1 <;> simp [hp, ih]
  exact key _
def vRecs (xs : List TUsageRecord) : Bool := leB ((xs.length : Nat) : Int) 24 && xs.zipIdx.all (fun y => vRec y.1 && eqB (idxF (recP y.1) 0 xs) (y.2 : Int))
theorem leB_not (a b : Int) : ltB a b = !leB b a := by
  by_cases h : a < b
  · rw [show ltB a b = true from by simp [ltB, h], show leB b a = false from by simp [leB]; omega]; rfl
  · rw [show ltB a b = false from by simp [ltB]; omega, show leB b a = true from by simp [leB]; omega]; rfl
theorem iAreValidRecords_eq {xs : List TUsageRecord} (hl : xs.length ≤ 1048576) : iAreValidRecords xs = some (vRecs xs) := by
  have := allk_rule (L := iAreValidRecords_L1 xs) xs (fun k x => vRec x && eqB (idxF (recP x) 0 xs) (k : Int)) (some true) (by omega)
    (fun k x hx hk => by
      simp only [iAreValidRecords_L1, ltB_lt hk, ix_nat, hx, iIsValidRecord_eq, iFindRecord_eq hl, WR_succ (show k < 9223372036854775807 by omega), Option.bind_some, cond_true]
      cases vRec x <;> cases eqB (idxF (recP x) 0 xs) (k : Int) <;> rfl) (by simp [iAreValidRecords_L1])
  unfold iAreValidRecords vRecs
  rw [this, leB_not]
  cases leB ((xs.length : Nat) : Int) 24 <;> cases xs.zipIdx.all (fun y => vRec y.1 && eqB (idxF (recP y.1) 0 xs) (y.2 : Int)) <;> rfl
theorem sAreValidRecords_eq {xs : List TUsageRecord} (hl : xs.length ≤ 1048576) : sAreValidRecords xs = some (vRecs xs) := by
  have := allk_rule (L := sAreValidRecords_L1 xs) xs (fun k x => vRec x && eqB (idxF (recP x) 0 xs) (k : Int)) (some (leB ((xs.length : Nat) : Int) 24)) (by omega)
    (fun k x hx hk => by
      have hf := first_iff hx
      have hsl : slOk xs 0 (k : Int) = true := by simp [slOk]; omega
      simp only [sAreValidRecords_L1, ltB_lt hk, ix_nat, hx, sIsValidRecord_eq, hsl, sFindRecord_eq (xs := xs.take k) (by simp; omega), Int.toNat_natCast, WR_succ (show k < 9223372036854775807 by omega), Option.bind_some, cond_true, ← hf]
      cases vRec x <;> cases eqB (idxF (recP x) 0 xs) (k : Int) <;> rfl) (by simp [sAreValidRecords_L1])
  unfold sAreValidRecords vRecs
  rw [this]
  cases leB ((xs.length : Nat) : Int) 24 <;> cases xs.zipIdx.all (fun y => vRec y.1 && eqB (idxF (recP y.1) 0 xs) (y.2 : Int)) <;> rfl
def okTOperatorBook (b : TOperatorBook) : Prop := okL (fun _ => True) b.Own ∧ okL (fun _ => True) b.Claims
def vBook (b : TOperatorBook) : Bool := b.Claims.zipIdx.all (fun y => eqB y.1.Network b.Network) && (inR b.Network 0 3 && (vRecs b.Own && vRecs b.Claims))
theorem iIsValidBook_eq {b : TOperatorBook} (h : okTOperatorBook b) : iIsValidBook b = some (vBook b) := by
  have := h.2.1
  have hr := allk_rule (L := iIsValidBook_L1 b) b.Claims (fun _ x => eqB x.Network b.Network) (some true) (by omega)
    (fun k x hx hk => by
      simp only [iIsValidBook_L1, ltB_lt hk, ix_nat, hx, WR_succ (show k < 9223372036854775807 by omega), Option.bind_some, cond_true]
      cases eqB x.Network b.Network <;> rfl) (by simp [iIsValidBook_L1])
  simp only [iIsValidBook, iInRange_eq, iAreValidRecords_eq h.1.1, iAreValidRecords_eq h.2.1, hr, vBook, Option.bind_some]
  cases inR b.Network 0 3 <;> cases vRecs b.Own <;> cases vRecs b.Claims <;> cases b.Claims.zipIdx.all (fun y => eqB y.1.Network b.Network) <;> rfl
theorem sIsValidBook_eq {b : TOperatorBook} (h : okTOperatorBook b) : sIsValidBook b = some (vBook b) := by
  have := h.2.1
  have hr := allk_rule (L := sIsValidBook_L1 b) b.Claims (fun _ x => eqB x.Network b.Network) (some (inR b.Network 0 3 && (vRecs b.Own && vRecs b.Claims))) (by omega)
    (fun k x hx hk => by
      simp only [sIsValidBook_L1, ltB_lt hk, ix_nat, hx, WR_succ (show k < 9223372036854775807 by omega), Option.bind_some, cond_true]
      cases eqB x.Network b.Network <;> rfl) (by
      simp only [sIsValidBook_L1, ltB_self, cond_false, sl1In_eq, sAreValidRecords_eq h.1.1, sAreValidRecords_eq h.2.1, Option.bind_some]
      cases inR b.Network 0 3 <;> cases vRecs b.Own <;> cases vRecs b.Claims <;> rfl)
  rw [sIsValidBook, hr, vBook]
  cases b.Claims.zipIdx.all (fun y => eqB y.1.Network b.Network) <;> rfl

theorem iMin_eq (a b : Int) : iMin a b = some (if b < a then b else a) := by unfold iMin ltB; by_cases h : b < a <;> simp [h]
theorem sMin_eq (a b : Int) : sMin a b = some (if b < a then b else a) := by unfold sMin ltB; by_cases h : b < a <;> simp [h]
def bookP (n : Int) (x : TOperatorBook) : Bool := eqB x.Network n
theorem iFindBook_eq {xs : List TOperatorBook} (hl : xs.length ≤ 1048576) (n : Int) : iFindBook xs n = some (idxF (bookP n) 0 xs) :=
  find_rule xs (bookP n) (by omega) (fun k x hx hk => by
    simp only [iFindBook_L1, ltB_lt hk, ix_nat, hx, WR_succ (show k < 9223372036854775807 by omega), bookP, Option.bind_some, cond_true]
    cases eqB x.Network n <;> rfl) (by simp [iFindBook_L1])
theorem sFindBook_eq {xs : List TOperatorBook} (hl : xs.length ≤ 1048576) (n : Int) : sFindBook xs n = some (idxF (bookP n) 0 xs) :=
  find_rule xs (bookP n) (by omega) (fun k x hx hk => by
    simp only [sFindBook_L1, ltB_lt hk, ix_nat, hx, WR_succ (show k < 9223372036854775807 by omega), bookP, Option.bind_some, cond_true]
    cases eqB x.Network n <;> rfl) (by simp [sFindBook_L1])
def vDeal (d : TRoamingAgreement) : Bool := inR d.Home 0 3 && (inR d.Visited 0 3 && (!eqB d.Home d.Visited && (inR d.Price 0 1000 && inR d.Cap 0 1000000000000)))
theorem iIsValidAgreement_eq (d : TRoamingAgreement) : iIsValidAgreement d = some (vDeal d) := by
  simp only [iIsValidAgreement, iInRange_eq, vDeal, Option.bind_some]
  cases inR d.Home 0 3 <;> cases inR d.Visited 0 3 <;> cases eqB d.Home d.Visited <;> cases inR d.Price 0 1000 <;> rfl
theorem sIsValidAgreement_eq (d : TRoamingAgreement) : sIsValidAgreement d = some (vDeal d) := by
  simp only [sIsValidAgreement, sl1In_eq, vDeal, Option.bind_some]
  cases inR d.Home 0 3 <;> cases inR d.Visited 0 3 <;> cases eqB d.Home d.Visited <;> cases inR d.Price 0 1000 <;> rfl
/-- What one told record adds. -/
def agB (own told : List TUsageRecord) (v : Int) (s : Int) (y : TUsageRecord × Nat) : Option (Step Int Int) :=
  bif eqB y.1.Network v && (eqB (idxF (recP y.1) 0 told) (y.2 : Int) && leB 0 (idxF (recP y.1) 0 own)) then
    Option.bind (ix own (idxF (recP y.1) 0 own)) fun x => some (.next (WR (s + (if x.Bytes < y.1.Bytes then x.Bytes else y.1.Bytes))))
  else some (.next s)
theorem min_comm' (a b : Int) : (if b < a then b else a) = (if a < b then a else b) := by split <;> split <;> omega
theorem iAgreedBytes_eq {own told : List TUsageRecord} (h1 : own.length ≤ 1048576) (h2 : told.length ≤ 1048576) (v : Int) : iAgreedBytes own told v = forL (agB own told v) some told.zipIdx 0 := by
  have := iter_for (step := iAgreedBytes_L1 own told v) told.zipIdx (fun k (s : Int) => (s, (k : Int))) (agB own told v) some (by simpa using (show told.length ≤ 9223372036854775806 by omega))
    (fun k y s hy hk => by
      have hk' : k < told.length := by simpa using hk
      have : y = (told[k], k) := by rw [List.getElem?_eq_getElem hk] at hy; simpa using hy.symm
      subst this
      simp only [iAgreedBytes_L1, ltB_lt hk', ix_nat, List.getElem?_eq_getElem hk', iFindRecord_eq h1, iFindRecord_eq h2, iMin_eq, WR_succ (show k < 9223372036854775807 by omega), agB, Option.bind_some, cond_true]
      cases eqB told[k].Network v <;> cases eqB (idxF (recP told[k]) 0 told) (k : Int) <;> cases leB 0 (idxF (recP told[k]) 0 own) <;> try rfl
      simp only [Bool.not_true, cond_false, cond_true, Bool.and_self, Option.bind_some]
      cases ix own (idxF (recP told[k]) 0 own) <;> rfl)
    (fun s => by rw [List.length_zipIdx]; simp [iAgreedBytes_L1]) 0
  rw [iAgreedBytes]
  refine Eq.trans ?_ this
  show Option.bind (iter (iAgreedBytes_L1 own told v) FU ((0 : Int), ((0 : Nat) : Int))) _ = _
  cases iter (iAgreedBytes_L1 own told v) FU ((0 : Int), ((0 : Nat) : Int)) <;> rfl
theorem sAgreedBytes_eq {own told : List TUsageRecord} (h1 : own.length ≤ 1048576) (h2 : told.length ≤ 1048576) (v : Int) : sAgreedBytes own told v = forL (agB own told v) some told.zipIdx 0 := by
  have := iter_for (step := sAgreedBytes_L1 own told v) told.zipIdx (fun k (s : Int) => (s, (k : Int))) (agB own told v) some (by simpa using (show told.length ≤ 9223372036854775806 by omega))
    (fun k y s hy hk => by
      have hk' : k < told.length := by simpa using hk
      have : y = (told[k], k) := by rw [List.getElem?_eq_getElem hk] at hy; simpa using hy.symm
      subst this
      simp only [sAgreedBytes_L1, ltB_lt hk', ix_nat, List.getElem?_eq_getElem hk', sFindRecord_eq h1, sFindRecord_eq h2, sMin_eq, WR_succ (show k < 9223372036854775807 by omega), agB, Option.bind_some, cond_true]
      cases eqB told[k].Network v <;> cases eqB (idxF (recP told[k]) 0 told) (k : Int) <;> cases leB 0 (idxF (recP told[k]) 0 own) <;> try rfl
      simp only [cond_true, Bool.and_self, Option.bind_some]
      cases ix own (idxF (recP told[k]) 0 own) with
      | none => rfl
      | some x => simp only [Option.bind_some, stepM_next]; rw [min_comm' x.Bytes told[k].Bytes])
    (fun s => by rw [List.length_zipIdx]; simp [sAgreedBytes_L1]) 0
  rw [sAgreedBytes]
  refine Eq.trans ?_ this
  show Option.bind (iter (sAgreedBytes_L1 own told v) FU ((0 : Int), ((0 : Nat) : Int))) _ = _
  cases iter (sAgreedBytes_L1 own told v) FU ((0 : Int), ((0 : Nat) : Int)) <;> rfl
theorem ag_some {own told : List TUsageRecord} (v : Int) : ∀ (l : List (TUsageRecord × Nat)) (s : Int), ∃ r, forL (agB own told v) some l s = some r
  | [], s => ⟨s, rfl⟩
  | y :: l, s => by
    rw [forL]
    unfold agB
    cases hc : eqB y.1.Network v && (eqB (idxF (recP y.1) 0 told) (y.2 : Int) && leB 0 (idxF (recP y.1) 0 own)) with
    | false => exact ag_some v l s
    | true =>
      simp only [Bool.and_eq_true] at hc
      obtain ⟨j, hj, x, hx, _⟩ : ∃ j : Nat, idxF (recP y.1) 0 own = (j : Int) ∧ ∃ x, own[j]? = some x ∧ True := by
        rcases idx_cases (recP y.1) own 0 with ⟨h1, _⟩ | ⟨j, h1, x, h2, _⟩
        · have := hc.2.2
          have h1' : idxF (recP y.1) 0 own = -1 := h1
          rw [h1'] at this; simp [leB] at this
        · exact ⟨j, by simpa using h1, x, h2, trivial⟩
      simp only [cond_true, hj, ix_nat, hx, Option.bind_some]
      exact ag_some v l _
theorem owed_eq {own told : List TUsageRecord} (h1 : own.length ≤ 1048576) (h2 : told.length ≤ 1048576) (d : TRoamingAgreement) : ∃ r, iAmountOwed d own told = some r ∧ sAmountOwed d own told = some r := by
  obtain ⟨r, hr⟩ := ag_some (own := own) (told := told) d.Visited told.zipIdx 0
  simp only [iAmountOwed, sAmountOwed, iIsValidAgreement_eq, sIsValidAgreement_eq, iAreValidRecords_eq h1, iAreValidRecords_eq h2, sAreValidRecords_eq h1, sAreValidRecords_eq h2, iAgreedBytes_eq h1 h2, sAgreedBytes_eq h1 h2, hr, iMin_eq, sMin_eq, Option.bind_some]
  cases vDeal d <;> cases vRecs own <;> cases vRecs told <;> exact ⟨_, rfl, rfl⟩
/-- Whence a line is. -/
def LK (bs : List TOperatorBook) (d : TRoamingAgreement) (x : TStatementLine) : Prop :=
  ∃ (j i : Nat) (a b : TOperatorBook), idxF (bookP d.Home) 0 bs = (j : Int) ∧ bs[j]? = some a ∧ idxF (bookP d.Visited) 0 bs = (i : Int) ∧ bs[i]? = some b ∧ vBook a = true ∧ vBook b = true ∧ x.Payer = d.Home ∧ x.Payee = d.Visited ∧ 0 < x.Amount ∧ iAmountOwed d a.Own b.Claims = some x.Amount
/-- A settlement's line, if there is one. -/
theorem line_eq {bs : List TOperatorBook} (h : okL okTOperatorBook bs) (d : TRoamingAgreement) : ∃ o : Option TStatementLine, (∀ x, o = some x → LK bs d x) ∧ ∀ s : List TStatementLine,
    (Option.bind (iFindBook bs d.Home) fun r17 => Option.bind (iFindBook bs d.Visited) fun r18 => Option.bind (bif ltB r17 0 then (some true) else (bif ltB r18 0 then (some true) else (Option.bind (ix bs r17) fun x20 => Option.bind (iIsValidBook x20) fun r21 => bif !r21 then (some true) else (Option.bind (ix bs r18) fun x22 => Option.bind (iIsValidBook x22) fun r23 => some (!r23))))) fun (v19 : Bool) => bif v19 then (some s) else (Option.bind (ix bs r17) fun x24 => Option.bind (ix bs r18) fun x25 => Option.bind (iAmountOwed d x24.Own x25.Claims) fun r26 => (bif ltB 0 r26 then (bif apOk 24 (s ++ [(⟨d.Home, d.Visited, r26⟩ : TStatementLine)]).length then (some (s ++ [(⟨d.Home, d.Visited, r26⟩ : TStatementLine)])) else none) else (some s)))) = (match o with | none => some s | some x => bif apOk 24 (s ++ [x]).length then some (s ++ [x]) else none) ∧
    (Option.bind (sFindBook bs d.Home) fun r17 => Option.bind (sFindBook bs d.Visited) fun r18 => Option.bind (bif ltB r17 0 then (some true) else (bif ltB r18 0 then (some true) else (Option.bind (ix bs r17) fun x20 => Option.bind (sIsValidBook x20) fun r21 => bif !r21 then (some true) else (Option.bind (ix bs r18) fun x22 => Option.bind (sIsValidBook x22) fun r23 => some (!r23))))) fun (v19 : Bool) => bif v19 then (some s) else (Option.bind (ix bs r17) fun x24 => Option.bind (ix bs r18) fun x25 => Option.bind (sAmountOwed d x24.Own x25.Claims) fun r26 => (bif ltB 0 r26 then (bif apOk 24 (s ++ [(⟨d.Home, d.Visited, r26⟩ : TStatementLine)]).length then (some (s ++ [(⟨d.Home, d.Visited, r26⟩ : TStatementLine)])) else none) else (some s)))) = (match o with | none => some s | some x => bif apOk 24 (s ++ [x]).length then some (s ++ [x]) else none) := by
  have hl := h.1
  simp only [iFindBook_eq hl, sFindBook_eq hl, Option.bind_some]
  rcases idx_cases (bookP d.Home) bs 0 with ⟨h1, _⟩ | ⟨j, h1, x, h2, _⟩
  · have h1' : idxF (bookP d.Home) 0 bs = -1 := h1
    rw [h1']
    have hneg : ltB (-1) 0 = true := lt0_t (by omega)
    refine ⟨none, (fun _ h => by cases h), fun s => ?_⟩
    simp only [hneg, cond_true, Option.bind_some]
    exact ⟨trivial, trivial⟩
  have e1 : idxF (bookP d.Home) 0 bs = (j : Int) := by simpa using h1
  rcases idx_cases (bookP d.Visited) bs 0 with ⟨g1, _⟩ | ⟨i, g1, y, g2, _⟩
  · have g1' : idxF (bookP d.Visited) 0 bs = -1 := g1
    rw [g1', e1]
    have hj : ltB (j : Int) 0 = false := lt0_f (by omega)
    have hneg : ltB (-1) 0 = true := lt0_t (by omega)
    refine ⟨none, (fun _ h => by cases h), fun s => ?_⟩
    simp only [hj, hneg, cond_true, cond_false, Option.bind_some]
    exact ⟨trivial, trivial⟩
  have e2 : idxF (bookP d.Visited) 0 bs = (i : Int) := by simpa using g1
  rw [e1, e2]
  have hj : ltB (j : Int) 0 = false := lt0_f (by omega)
  have hi : ltB (i : Int) 0 = false := lt0_f (by omega)
  have okx := h.2 x (List.mem_of_getElem? h2)
  have oky := h.2 y (List.mem_of_getElem? g2)
  obtain ⟨r, q1, q2⟩ := owed_eq (own := x.Own) (told := y.Claims) okx.1.1 oky.2.1 d
  simp only [hj, hi, cond_false, ix_nat, h2, g2, Option.bind_some, iIsValidBook_eq okx, iIsValidBook_eq oky, sIsValidBook_eq okx, sIsValidBook_eq oky, q1, q2]
  cases vx : vBook x
  · exact ⟨none, (fun _ h => by cases h), fun s => ⟨rfl, rfl⟩⟩
  cases vy : vBook y
  · exact ⟨none, (fun _ h => by cases h), fun s => ⟨rfl, rfl⟩⟩
  cases hr : ltB 0 r
  · exact ⟨none, (fun _ h => by cases h), fun s => ⟨rfl, rfl⟩⟩
  · exact ⟨some ⟨d.Home, d.Visited, r⟩, (fun z hz => by cases hz; exact ⟨j, i, x, y, e1, h2, e2, g2, vx, vy, rfl, rfl, ltBt hr, q1⟩), fun s => ⟨rfl, rfl⟩⟩
theorem bind_next {α σ ρ : Type} (o : Option α) (f : α → σ) : (Option.bind o fun a => some (Step.next (ρ := ρ) (f a))) = Option.bind (o.map f) fun b => some (.next b) := by cases o <;> rfl
theorem settle_eq {bs : List TOperatorBook} (h : okL okTOperatorBook bs) {ds : List TRoamingAgreement} (hd : ds.length ≤ 1048576) : ∃ r, iSettlement bs ds = some r ∧ sSettlement bs ds = some r ∧ r.length ≤ 12 ∧ ∀ x ∈ r, ∃ d ∈ ds, LK bs d x := by
  have key : ∀ (m n k : Nat) (s : List TStatementLine), m = ds.length - k → k ≤ ds.length → m < n → s.length ≤ 12 → (∀ x ∈ s, ∃ d ∈ ds, LK bs d x) → ∃ r, iter (iSettlement_L1 bs ds) n ((k : Int), s) = some r ∧ iter (sSettlement_L1 bs ds) n ((k : Int), s) = some r ∧ r.length ≤ 12 ∧ ∀ x ∈ r, ∃ d ∈ ds, LK bs d x := by
    intro m
    induction m with
    | zero =>
      intro n k s hm hk hn hs hL
      cases n with
      | zero => omega
      | succ n =>
        have : k = ds.length := by omega
        subst this
        refine ⟨s, ?_, ?_, hs, hL⟩
        · rw [iter]; simp [iSettlement_L1]
        · rw [iter]; simp [sSettlement_L1]
    | succ m ih =>
      intro n k s hm hk hn hs hL
      cases n with
      | zero => omega
      | succ n =>
        have hlt : k < ds.length := by omega
        by_cases h12 : 12 ≤ s.length
        · have e1 : leB 12 ((s.length : Nat) : Int) = true := by simp [leB]; omega
          have e2 : ltB ((s.length : Nat) : Int) 12 = false := by simp [ltB]; omega
          refine ⟨s, ?_, ?_, hs, hL⟩
          · rw [iter]; simp [iSettlement_L1, ltB_lt hlt, List.getElem?_eq_getElem hlt, e1]
          · rw [iter]; simp [sSettlement_L1, ltB_lt hlt, e2]
        · have e1 : leB 12 ((s.length : Nat) : Int) = false := by simp [leB]; omega
          have e2 : ltB ((s.length : Nat) : Int) 12 = true := by simp [ltB]; omega
          obtain ⟨o, hlk, ho⟩ := line_eq h ds[k]
          obtain ⟨o1, o2⟩ := ho s
          have hw := WR_succ (show k < 9223372036854775807 by omega)
          have p1 : iSettlement_L1 bs ds ((k : Int), s) = (match o with | none => some s | some x => bif apOk 24 (s ++ [x]).length then some (s ++ [x]) else none).map (fun v => Step.next (((k + 1 : Nat) : Int), v)) := by
            rw [← o1]
            simp only [iSettlement_L1, ltB_lt hlt, ix_nat, List.getElem?_eq_getElem hlt, e1, hw, Option.bind_some, cond_true, cond_false]
            cases iFindBook bs ds[k].Home with
            | none => rfl
            | some r17 =>
            cases iFindBook bs ds[k].Visited with
            | none => rfl
            | some r18 =>
            simp only [Option.bind_some]
            cases (bif ltB r17 0 then some true else bif ltB r18 0 then some true else (ix bs r17).bind fun x20 => (iIsValidBook x20).bind fun r21 => bif !r21 then some true else (ix bs r18).bind fun x22 => (iIsValidBook x22).bind fun r23 => some !r23) with
            | none => rfl
            | some v19 =>
              cases v19
              · simp only [Option.bind_some, cond_false]
                cases ix bs r17 with
                | none => rfl
                | some x24 =>
                cases ix bs r18 with
                | none => rfl
                | some x25 =>
                simp only [Option.bind_some]
                cases iAmountOwed ds[k] x24.Own x25.Claims with
                | none => rfl
                | some r26 =>
                  simp only [Option.bind_some]
                  cases ltB 0 r26 <;> simp only [cond_true, cond_false, Option.bind_some, Option.map_some]
                  cases apOk 24 (s ++ [(⟨ds[k].Home, ds[k].Visited, r26⟩ : TStatementLine)]).length <;> rfl
              · rfl
          have p2 : sSettlement_L1 bs ds ((k : Int), s) = (match o with | none => some s | some x => bif apOk 24 (s ++ [x]).length then some (s ++ [x]) else none).map (fun v => Step.next (((k + 1 : Nat) : Int), v)) := by
            rw [← o2]
            simp only [sSettlement_L1, ltB_lt hlt, ix_nat, List.getElem?_eq_getElem hlt, e2, hw, Option.bind_some, cond_true, cond_false]
            cases sFindBook bs ds[k].Home with
            | none => rfl
            | some r17 =>
            cases sFindBook bs ds[k].Visited with
            | none => rfl
            | some r18 =>
            simp only [Option.bind_some]
            cases (bif ltB r17 0 then some true else bif ltB r18 0 then some true else (ix bs r17).bind fun x20 => (sIsValidBook x20).bind fun r21 => bif !r21 then some true else (ix bs r18).bind fun x22 => (sIsValidBook x22).bind fun r23 => some !r23) with
            | none => rfl
            | some v19 =>
              cases v19
              · simp only [Option.bind_some, cond_false]
                cases ix bs r17 with
                | none => rfl
                | some x24 =>
                cases ix bs r18 with
                | none => rfl
                | some x25 =>
                simp only [Option.bind_some]
                cases sAmountOwed ds[k] x24.Own x25.Claims with
                | none => rfl
                | some r26 =>
                  simp only [Option.bind_some]
                  cases ltB 0 r26 <;> simp only [cond_true, cond_false, Option.bind_some, Option.map_some]
                  cases apOk 24 (s ++ [(⟨ds[k].Home, ds[k].Visited, r26⟩ : TStatementLine)]).length <;> rfl
              · rfl
          rw [iter, iter, p1, p2]
          cases o with
          | none => exact ih n (k + 1) s (by omega) (by omega) (by omega) hs hL
          | some x =>
            have ha : apOk 24 (s ++ [x]).length = true := apOk_small (by omega) (by simp; omega)
            simp only [ha, cond_true, Option.map_some]
            exact ih n (k + 1) (s ++ [x]) (by omega) (by omega) (by omega) (by simp; omega) (fun y hy => by
              rcases List.mem_append.1 hy with hy | hy
              · exact hL y hy
              · obtain rfl := List.mem_singleton.1 hy
                exact ⟨ds[k], List.getElem_mem hlt, hlk _ rfl⟩)
  obtain ⟨r, h1, h2, h3⟩ := key ds.length FU 0 [] (by omega) (by omega) (by have := FU_big; omega) (by simp) (by simp)
  refine ⟨r, ?_, ?_, h3⟩
  · rw [iSettlement]; show Option.bind (iter (iSettlement_L1 bs ds) FU (((0 : Nat) : Int), [])) _ = _; rw [h1]; rfl
  · rw [sSettlement]; show Option.bind (iter (sSettlement_L1 bs ds) FU (((0 : Nat) : Int), [])) _ = _; rw [h2]; rfl
end Go.AM
set_option linter.unusedVariables false
set_option linter.unusedSimpArgs false
namespace Go.AM
open Go.Proofs
attribute [local simp] ltB_self eqB_refl ix_nat
/-! what is drawn -/
theorem w18Copy {xs : List TUsageRecord} (hl : xs.length ≤ 1000) : Wp (sl18Copy xs) (fun r => r = xs) := by
  unfold sl18Copy
  exact Wp.ok (apOk_in (by simp; omega) (by simp; omega)) (Wp.some (by simp))
theorem w18One {c : Tl1Cur} (h : curOK c) : Wp (sl18One c) (fun r => curOK r.2) := by
  unfold sl18One
  exact Wp.call (wBelow h (by omega)) fun r1 h1 => Wp.call (wBelow h1.1 (by omega)) fun r2 h2 => Wp.call (wBelow h2.1 (by omega)) fun r3 h3 => Wp.call (wBelow h3.1 (by omega)) fun r4 h4 => Wp.some h4.1
theorem wAppendRecord {xs : List TUsageRecord} (hl : xs.length ≤ 900) (r : TUsageRecord) : Wp (sAppendRecord xs r) (fun q => q.1.length ≤ xs.length + 1) := by
  unfold sAppendRecord
  refine Wp.call (w18Copy (by omega)) fun r1 h1 => ?_
  subst h1
  refine Wp.ok (apOk_in (by simp; omega) (by simp; omega)) ?_
  refine Wp.eq (sAreValidRecords_eq (by simp; omega)) ?_
  refine Wp.cond (fun _ => Wp.call (w18Copy (by omega)) fun r3 h3 => Wp.some (by subst h3; simp)) (fun _ => Wp.some (by simp))
theorem w18Draw {c : Tl1Cur} (h : curOK c) : Wp (sl18Draw c) (fun r => curOK r.2 ∧ r.1.length ≤ 8) := by
  unfold sl18Draw
  refine Wp.call (wBelow h (by omega)) fun r1 h1 => ?_
  refine Wp.call (P := fun x => curOK ⟨x.1, x.2.1, x.2.2.1⟩ ∧ x.2.2.2.length ≤ 8) ?_ fun x hx => Wp.some hx
  refine Wp.iterF (fun x => (0 ≤ x.1 ∧ x.1 ≤ 8) ∧ curOK ⟨x.2.1, x.2.2.1, x.2.2.2.1⟩ ∧ (x.2.2.2.2.length : Int) + x.1 ≤ 8) (fun x => x.1.toNat) ⟨⟨by simp only; omega, by simp only; omega⟩, h1.1, by simp only [List.length_nil]; omega⟩ (by simp only; omega) ?_
  rintro ⟨v4, v5, v6, v7, v8⟩ ⟨⟨i0, i1⟩, i2, i3⟩
  simp only at i0 i1 i2 i3
  simp only [sl18Draw_L1]
  refine Wp.cond (fun hb => ?_) (fun hb => Wp.some ⟨i2, by show v8.length ≤ 8; omega⟩)
  have hb := ltBt hb
  refine Wp.call (w18One i2) fun r15 h15 => Wp.call (wAppendRecord (by omega) _) fun r16 h16 => Wp.some ⟨⟨⟨?_, ?_⟩, h15, ?_⟩, ?_⟩
  all_goals simp only [WR_in (show -9223372036854775808 ≤ v4 - 1 ∧ v4 - 1 ≤ 9223372036854775807 by omega)]
  all_goals omega
theorem w38Own {xs : List TUsageRecord} (hl : xs.length ≤ 100) (n : Int) : Wp (sl38Own xs n) (fun r => r.length ≤ 100) := by
  unfold sl38Own
  refine Wp.call (P := fun x => x.length ≤ 100) ?_ fun x hx => Wp.some hx
  refine Wp.iterF (fun x : Int × List TUsageRecord => (0 ≤ x.1 ∧ x.1 ≤ (xs.length : Int)) ∧ (x.2.length : Int) ≤ x.1) (fun x : Int × List TUsageRecord => xs.length - x.1.toNat) ⟨⟨by simp, by simp⟩, by simp⟩ (by simp only; omega) ?_
  rintro ⟨v1, v2⟩ ⟨⟨i0, i1⟩, i3⟩
  simp only at i0 i1 i3
  simp only [sl38Own_L1]
  refine Wp.cond (fun hb => ?_) (fun hb => Wp.some (by show v2.length ≤ 100; omega))
  have hb := ltBt hb
  refine Wp.ix i0 hb fun x hm _ => ?_
  refine Wp.call (P := fun y => (y.length : Int) ≤ v1 + 1) ?_ fun y hy => Wp.some ⟨⟨⟨?_, ?_⟩, ?_⟩, ?_⟩
  · refine Wp.cond (fun _ => Wp.ix i0 hb fun x hm _ => Wp.ok (apOk_in (by simp; omega) (by simp; omega)) (Wp.some (by simp; omega))) (fun _ => Wp.some (by omega))
  all_goals simp only [WR_in (show -9223372036854775808 ≤ v1 + 1 ∧ v1 + 1 ≤ 9223372036854775807 by omega)]
  all_goals omega
theorem okB {n : Int} {a b : List TUsageRecord} (ha : a.length ≤ 100) (hb : b.length ≤ 100) : okTOperatorBook ⟨n, a, b⟩ := ⟨⟨by show a.length ≤ _; omega, fun _ _ => trivial⟩, ⟨by show b.length ≤ _; omega, fun _ _ => trivial⟩⟩
theorem w38Books {c : Tl1Cur} (h : curOK c) : Wp (sl38Books c) (fun r => curOK r.2 ∧ r.1.length ≤ 3 ∧ ∀ b ∈ r.1, okTOperatorBook b) := by
  unfold sl38Books
  refine Wp.call (w18Draw h) fun r1 h1 => ?_
  refine Wp.call (P := fun x => curOK ⟨x.1, x.2.1, x.2.2.1⟩ ∧ x.2.2.2.length ≤ 3 ∧ ∀ b ∈ x.2.2.2, okTOperatorBook b) ?_ fun x hx => Wp.some hx
  have hl := h1.2
  refine Wp.iterF (fun x => (0 ≤ x.1 ∧ x.1 ≤ 3) ∧ curOK ⟨x.2.1, x.2.2.1, x.2.2.2.1⟩ ∧ (x.2.2.2.2.length : Int) ≤ x.1 ∧ ∀ b ∈ x.2.2.2.2, okTOperatorBook b) (fun x => 3 - x.1.toNat) ⟨⟨by simp, by simp⟩, h1.1, by simp, by simp⟩ (by simp) ?_
  rintro ⟨v2, v3, v4, v5, v6⟩ ⟨⟨i0, i1⟩, i2, i3, i4⟩
  simp only at i0 i1 i2 i3 i4
  simp only [sl38Books_L1]
  refine Wp.cond (fun hb => ?_) (fun hb => Wp.some ⟨i2, by show v6.length ≤ 3; omega, i4⟩)
  have hb := ltBt hb
  refine Wp.call (wOnce i2 (by omega)) fun r15 h15 => ?_
  refine Wp.call (P := fun y => (y.length : Int) ≤ v2 + 1 ∧ ∀ b ∈ y, okTOperatorBook b) ?_ fun y hy => Wp.some ⟨⟨⟨?_, ?_⟩, h15, ?_, hy.2⟩, ?_⟩
  · refine Wp.cond (fun _ => ?_) (fun _ => Wp.some ⟨by omega, i4⟩)
    refine Wp.call (w18Copy (by omega)) fun r17 h17 => Wp.call (w38Own (by omega) v2) fun r18 h18 => Wp.ok (apOk_in (by simp; omega) (by simp; omega)) (Wp.some ⟨by simp; omega, fun b hb => ?_⟩)
    rcases List.mem_append.1 hb with hb | hb
    · exact i4 b hb
    · obtain rfl := List.mem_singleton.1 hb
      exact okB (by rw [h17]; omega) h18
  all_goals have hy1 := hy.1
  all_goals simp only [WR_in (show -9223372036854775808 ≤ v2 + 1 ∧ v2 + 1 ≤ 9223372036854775807 by omega)]
  all_goals omega
theorem wDrawBooks {xs : List Int} (hl : xs.length ≤ 1048576) (hu : ∀ x ∈ xs, okU8 x) : Wp (sDrawBooks xs) (fun r => okL okTOperatorBook r.1 ∧ r.2.length ≤ 1048576) := by
  obtain ⟨c, e, hc, _⟩ := new_ok hl hu
  unfold sDrawBooks
  exact Wp.eq e (Wp.call (w38Books hc) fun r2 h2 => Wp.call (wAgreements h2.1) fun r3 h3 => Wp.some ⟨⟨by have := h2.2.1; show r2.1.length ≤ _; omega, h2.2.2⟩, by have := h3.2; show r3.1.length ≤ _; omega⟩)
/-! texts -/
theorem lit_size (a : Array UInt8) : (ByteArray.mk a).size = a.size := rfl
def it (n : Int) : ByteArray := ⟨(Lib.itoa n).toArray⟩
theorem it_size {n : Int} (h : rgI .i64 n) : (it n).size ≤ 21 := by
  have := rg64 h
  show (Lib.itoa n).toArray.size ≤ 21
  rw [List.size_toArray]; exact Lib.itoa_length_le n this.1 this.2
theorem fint_i {n : Int} (h : rgI .i64 n) : iFormatInt n = some (it n) := by
  have := rg64 h
  unfold iFormatInt gItoa
  rw [show (leB (-9223372036854775808) n && leB n 9223372036854775807) = true from by simp [this.1, this.2]]
  rfl
attribute [irreducible] it
theorem saOk_t {a b : ByteArray} (h : a.size + b.size ≤ 9223372036854775807) : saOk a b = true := by simp [saOk, h]
theorem tl_loop (bs : ByteArray) : ∀ (n i : Nat) (r : List UInt8), bs.size - i = n → (ByteArray.toList.loop bs i r).length = r.length + n
  | 0, i, r, h => by rw [ByteArray.toList.loop, if_neg (by omega)]; simp
  | n + 1, i, r, h => by rw [ByteArray.toList.loop, if_pos (by omega), tl_loop bs n (i + 1) _ (by omega)]; simp; omega
theorem tl_size (a : ByteArray) : a.toList.length = a.size := by rw [ByteArray.toList, tl_loop a a.size 0 [] (by omega)]; simp
theorem strB_ne {a b : ByteArray} (h : a.size ≠ b.size) : strB a b = false := by
  cases hs : strB a b
  · rfl
  · exfalso; apply h
    simp only [strB, beq_iff_eq] at hs
    have := congrArg List.length hs
    rwa [tl_size, tl_size] at this
def lineB (x : TStatementLine) : ByteArray := it x.Payer ++ ⟨#[62]⟩ ++ it x.Payee ++ ⟨#[58]⟩ ++ it x.Amount
structure LR (x : TStatementLine) : Prop where
  a : rgI .i64 x.Payer
  b : rgI .i64 x.Payee
  c : rgI .i64 x.Amount
theorem line_size {x : TStatementLine} (r : LR x) : 2 ≤ (lineB x).size ∧ (lineB x).size ≤ 65 := by
  have s1 := it_size r.1; have s2 := it_size r.2; have s3 := it_size r.3
  simp only [lineB, ByteArray.size_append, lit_size, List.size_toArray, List.length_cons, List.length_nil]; omega
theorem lens_in : ∀ (xs : List TStatementLine), (∀ x ∈ xs, LR x) → Lib.lens ((xs.map lineB).map (·.data.toList)) ≤ 65 * xs.length
  | [], _ => by simp [Lib.lens]
  | x :: xs, h => by
    have h1 := line_size (h x (by simp))
    have h2 := lens_in xs (fun y hy => h y (by simp [hy]))
    have e : (lineB x).data.toList.length = (lineB x).size := (Lib.size_eq _).symm
    simp only [Lib.lens, List.map_cons, List.sum_cons, List.length_cons] at h2 ⊢
    omega
theorem join_size {xs : List TStatementLine} (h : ∀ x ∈ xs, LR x) (h0 : xs ≠ []) : 2 ≤ (joinB (xs.map lineB) ⟨#[32]⟩).size ∧ (joinB (xs.map lineB) ⟨#[32]⟩).size ≤ 66 * xs.length := by
  obtain ⟨x, ys, rfl⟩ := List.exists_cons_of_ne_nil h0
  have h1 := line_size (h x (by simp))
  have h2 := lens_in (x :: ys) h
  have e : (lineB x).data.toList.length = (lineB x).size := (Lib.size_eq _).symm
  have e2 : (joinB ((x :: ys).map lineB) ⟨#[32]⟩).size = (Lib.join (((x :: ys).map lineB).map (·.data.toList)) [32]).length := by
    show (List.toArray _).size = _
    rw [List.size_toArray]
  rw [e2, List.map_cons, List.map_cons, Lib.join_length]
  simp only [List.map_cons] at h2
  simp only [Lib.lens, List.map_cons, List.sum_cons, List.length_cons, List.length_map, List.length_nil] at h2 ⊢
  omega
theorem gJoin_some {xs : List ByteArray} {sep : ByteArray} (h1 : xs.length ≤ 140737488355328) (h2 : (joinB xs sep).size ≤ 140737488355328) : gJoin xs sep = some (joinB xs sep) := by
  unfold gJoin
  rw [show (Nat.ble xs.length 140737488355328 && Nat.ble (joinB xs sep).size 140737488355328) = true from by simp [h1, h2]]
  rfl
theorem stm_i {xs : List TStatementLine} (hl : xs.length ≤ 1048576) (r : ∀ x ∈ xs, LR x) : ∃ s, iFormatStatement xs = some s ∧ strB s (⟨#[45]⟩ : ByteArray) = eqB ((xs.length : Nat) : Int) 0 := by
  unfold iFormatStatement
  cases he : eqB ((xs.length : Nat) : Int) 0
  · have h0 : xs ≠ [] := by intro h; subst h; simp at he
    simp only [cond_false]
    rw [show mkOk 16 ((xs.length : Nat) : Int) ((xs.length : Nat) : Int) = true from by simp [mkOk]; omega, cond_true, Int.toNat_natCast]
    rw [iter_copy lineB (⟨#[]⟩ : ByteArray) xs (by omega) (fun k x v hx hv => by
      have hk := (List.getElem?_eq_some_iff.1 hx).1
      have q := r x (List.mem_of_getElem? hx)
      have s1 := it_size q.1; have s2 := it_size q.2; have s3 := it_size q.3
      simp only [iFormatStatement_L1, ltB_lt hk, ix_nat, hx, fint_i q.1, fint_i q.2, fint_i q.3, List.getElem?_eq_getElem (show k < v.length by omega), WR_succ (show k < 9223372036854775807 by omega), Option.bind_some, cond_true, Int.toNat_natCast, lineB]
      simp (disch := ((try simp only [ByteArray.size_append, lit_size, List.size_toArray, List.length_cons, List.length_nil]); omega)) only [saOk_t, cond_true, Option.bind_some]) (fun v => by simp [iFormatStatement_L1])]
    simp only [Option.bind_some]
    have hj := join_size r h0
    rw [gJoin_some (by simp; omega) (by omega)]
    refine ⟨_, rfl, strB_ne ?_⟩
    rw [show (⟨#[45]⟩ : ByteArray).size = 1 from rfl]; omega
  · exact ⟨_, rfl, by simp [strB]⟩
/-! the law -/
theorem owed_pos {own told : List TUsageRecord} (h1 : own.length ≤ 1048576) (h2 : told.length ≤ 1048576) {d : TRoamingAgreement} {r : Int} (h : iAmountOwed d own told = some r) (h0 : 0 < r) : vDeal d = true ∧ r ≤ d.Cap := by
  obtain ⟨q, hr⟩ := ag_some (own := own) (told := told) d.Visited told.zipIdx 0
  simp only [iAmountOwed, iIsValidAgreement_eq, iAreValidRecords_eq h1, iAreValidRecords_eq h2, iAgreedBytes_eq h1 h2, hr, iMin_eq, Option.bind_some] at h
  cases hd : vDeal d <;> rw [hd] at h
  · simp only [Bool.not_false, cond_true, Option.bind_some, Option.some.injEq] at h; omega
  refine ⟨rfl, ?_⟩
  cases hv : vRecs own <;> cases hw : vRecs told <;> rw [hv, hw] at h <;> simp only [Bool.not_false, Bool.not_true, cond_true, cond_false, Option.bind_some, Option.some.injEq] at h <;> first | (split at h <;> omega) | omega
theorem rg_of {n : Int} (h : -9223372036854775808 ≤ n ∧ n ≤ 9223372036854775807) : rgI .i64 n := by
  simp [rgI, Lit.wf, IntKind.min, IntKind.max, IntKind.signed, IntKind.bits]; omega
theorem lr_of {bs : List TOperatorBook} (hb : okL okTOperatorBook bs) {d : TRoamingAgreement} {x : TStatementLine} (h : LK bs d x) : LR x ∧ x.Amount ≤ d.Cap := by
  obtain ⟨j, i, a, b, _, e1, _, e2, _, _, p1, p2, p3, p4⟩ := h
  have oa := hb.2 a (List.mem_of_getElem? e1)
  have ob := hb.2 b (List.mem_of_getElem? e2)
  obtain ⟨hv, hc⟩ := owed_pos oa.1.1 ob.2.1 p4 p3
  simp only [vDeal, Bool.and_eq_true, inR] at hv
  obtain ⟨⟨v1, v2⟩, ⟨v3, v4⟩, _, _, ⟨v5, v6⟩⟩ := hv
  have v1 := leBt v1; have v2 := leBt v2; have v3 := leBt v3; have v4 := leBt v4; have v6 := leBt v6
  exact ⟨⟨rg_of (by omega), rg_of (by omega), rg_of (by omega)⟩, hc⟩
/-- The second loop: some deal answers for the line. -/
theorem law2 {bs : List TOperatorBook} (hb : okL okTOperatorBook bs) {ds : List TRoamingAgreement} (hd : ds.length ≤ 1048576) {ls : List TStatementLine} {v : Nat} {x : TStatementLine} (hx : ls[v]? = some x) {j i : Nat} {a b : TOperatorBook} (ha : bs[j]? = some a) (hb' : bs[i]? = some b)
    {d : TRoamingAgreement} (hm : d ∈ ds) (p1 : x.Payer = d.Home) (p2 : x.Payee = d.Visited) (p3 : 0 < x.Amount) (p4 : x.Amount ≤ d.Cap) (p5 : iAmountOwed d a.Own b.Claims = some x.Amount) :
    iter (lFnSettlementLines_L2 (bs, ds) ls (v : Int) (j : Int) (i : Int)) FU (false, 0) = some true := by
  have oa := hb.2 a (List.mem_of_getElem? ha)
  have ob := hb.2 b (List.mem_of_getElem? hb')
  let t : TRoamingAgreement → Bool := fun e => eqB e.Home x.Payer && (eqB e.Visited x.Payee && (leB 1 x.Amount && (leB x.Amount e.Cap && (match iAmountOwed e a.Own b.Claims with | some r => eqB x.Amount r | none => false))))
  have h := iter_for (step := lFnSettlementLines_L2 (bs, ds) ls (v : Int) (j : Int) (i : Int)) ds (fun k (s : Bool) => (s, (k : Int))) (fun s e => some (.next (s || t e))) (fun s => some s) (by omega)
    (fun k e s he hk => by
      obtain ⟨r, hr, _⟩ := owed_eq (own := a.Own) (told := b.Claims) oa.1.1 ob.2.1 e
      simp only [lFnSettlementLines_L2, ltB_lt hk, ix_nat, he, hx, ha, hb', hr, WR_succ (show k < 9223372036854775807 by omega), Option.bind_some, cond_true, t]
      cases s <;> cases eqB e.Home x.Payer <;> cases eqB e.Visited x.Payee <;> cases leB 1 x.Amount <;> cases leB x.Amount e.Cap <;> rfl)
    (fun s => by simp [lFnSettlementLines_L2]) false
  refine Eq.trans (show iter (lFnSettlementLines_L2 (bs, ds) ls (v : Int) (j : Int) (i : Int)) FU (false, 0) = _ from h) ?_
  have key : ∀ (es : List TRoamingAgreement) (s : Bool), forL (fun (s : Bool) e => some (Step.next (ρ := Bool) (s || t e))) (fun s => some s) es s = some (s || es.any t) := by
    intro es
    induction es with
    | nil => intro s; simp [forL]
    | cons e es ih => intro s; rw [forL]; simp only [ih, List.any_cons, Bool.or_assoc]
  rw [key, Bool.false_or]
  congr 1
  refine List.any_eq_true.2 ⟨d, hm, ?_⟩
  simp only [t, p5, p1, p2, eqB_refl, Bool.true_and, show leB 1 x.Amount = true from leB_t.2 (by omega), show leB x.Amount d.Cap = true from leB_t.2 p4]
theorem lFnSettlementLines_ok (xs : List Int) (hp : preL okU8 xs) : lFnSettlementLines xs = some true := by
  unfold lFnSettlementLines
  simp only [lbig, Option.bind_some]
  cases hb : ltB 1048576 ((xs.length : Nat) : Int)
  case true => rfl
  have hl : xs.length ≤ 1048576 := by have := ltBf hb; omega
  obtain ⟨⟨bs, ds⟩, e, hbs, hds⟩ := (wDrawBooks hl hp.2).ex
  simp only at hbs hds
  obtain ⟨ls, e1, e2, h12, hls⟩ := settle_eq hbs hds
  simp only [cond_false, e, e1, e2, eqB_refl, Bool.not_true, Option.bind_some, show ltB 12 ((ls.length : Nat) : Int) = false from ltB_f.2 (by omega)]
  have hlr : ∀ x ∈ ls, LR x := fun x hx => by
    obtain ⟨d, _, hk⟩ := hls x hx
    exact (lr_of hbs hk).1
  obtain ⟨s, hs, hse⟩ := stm_i (xs := ls) (by omega) hlr
  have hbl := hbs.1
  have h := iter_for (step := lFnSettlementLines_L1 (bs, ds) ls) ls (fun k (_ : Unit) => (k : Int)) (fun _ _ => some (.next ())) (fun _ => some true) (by omega)
    (fun k x u hx hk => by
      obtain ⟨d, hm, hk'⟩ := hls x (List.mem_of_getElem? hx)
      have hcap := (lr_of hbs hk').2
      obtain ⟨j, i, a, b, q1, q2, q3, q4, q5, q6, p1, p2, p3, p4⟩ := hk'
      have oa := hbs.2 a (List.mem_of_getElem? q2)
      have ob := hbs.2 b (List.mem_of_getElem? q4)
      have hj := (List.getElem?_eq_some_iff.1 q2).1
      have hi := (List.getElem?_eq_some_iff.1 q4).1
      have l2 := law2 hbs hds hx q2 q4 hm p1 p2 p3 hcap p4
      simp only [lFnSettlementLines_L1, ltB_lt hk, ix_nat, hx, iFindBook_eq hbl, p1, p2, q1, q3, q2, q4, iIsValidBook_eq oa, iIsValidBook_eq ob, q5, q6, l2, Option.bind_some, cond_true, cond_false, Bool.not_true, show ltB (j : Int) 0 = false from ltB_f.2 (by omega), show ltB (i : Int) 0 = false from ltB_f.2 (by omega), show leB ((bs.length : Nat) : Int) (j : Int) = false from leB_f.2 (by omega), show leB ((bs.length : Nat) : Int) (i : Int) = false from leB_f.2 (by omega), WR_succ (show k < 9223372036854775807 by omega)]
      rfl)
    (fun u => by simp [lFnSettlementLines_L1, hs, hse, booB]) ()
  refine Eq.trans (show iter (lFnSettlementLines_L1 (bs, ds) ls) FU 0 = _ from h) ?_
  have key : ∀ es : List TStatementLine, forL (fun (_ : Unit) (_ : TStatementLine) => some (Step.next (ρ := Bool) ())) (fun _ => some true) es () = some true := by
    intro es
    induction es with
    | nil => rfl
    | cons e es ih => rw [forL]; exact ih
  exact key ls
theorem fnSettlementLines_fn (x0 : D) (h0 : WT (.l [.i .u8]) x0) : Fn Tryd.prog 3 [.c x0] [rB true] := by
  obtain ⟨y0, rfl, l0, w0⟩ := h0.gl
  obtain ⟨a0, rfl, p0⟩ := WTL_map (f := eU8) (p := okU8) (fun x h => by obtain ⟨n, r, rfl, w, h⟩ := h.gi; obtain rfl := h.gn; exact ⟨n, rfl, wf_u8 w⟩) w0
  exact lFnSettlementLines_c (lFnSettlementLines_ok a0 ⟨by simpa using l0, p0⟩)
end Go.AM
