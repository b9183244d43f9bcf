/-
  The abstract machine, part Zq: what is kept but for one label and one region; rows whose elements hold slices that lie alone.
-/
import Derived.Test.YtlpclccdbmoemaaGreatAmZp
set_option linter.unusedVariables false
namespace Go.AM
open Go.RowKit
/-- All is kept but label q and region l. -/
structure KG (q l : Nat) (E : Env) (w : World) (E' : Env) (w' : World) : Prop where
  r : ∀ o x, o ≠ q → E.r o = some x → E'.r o = some x
  H : ∀ g b, E.H g b → E'.H g b
  heap : ∀ g b, E.H g b → w'.heap[b]? = w.heap[b]?
  T : ∀ k b, k ≠ l → E.T k b → E'.T k b ∧ w'.heap[b]? = w.heap[b]?
  Z : ∀ b, E.Z b → E'.Z b ∧ SimB w w' b
  n : ∀ o, o ≠ q → (E'.n o ↔ E.n o)
section
variable {q l : Nat} {E E' : Env} {w w' : World}
theorem cvC_kg (x : KG q l E w E' w') : ∀ {c : C} {u : Value}, c.has q = false → c.hasR l = false → cvC E w c u → cvC E' w' c u
  | .d g d, u, _, _, h => rdD_mono (x.heap g) (x.H g) d u h
  | .w o n, u, ho, _, ⟨b, c, h, hu⟩ => ⟨b, c, x.r _ _ (beqF ho) h, hu⟩
  | .s o sz off len, u, ho, _, ⟨A, c, b, k, h, hu⟩ => ⟨A, c, b, k, x.r _ _ (beqF ho) h, hu⟩
  | .p o k, u, ho, _, ⟨b, c, h, hu⟩ => ⟨b, c, x.r _ _ (beqF ho) h, hu⟩
  | .e o sz i j, u, ho, _, ⟨b, c, h, hu⟩ => ⟨b, c, x.r _ _ (beqF ho) h, hu⟩
  | .q g y j, u, _, _, ⟨b, k, hu, hb, h⟩ => ⟨b, k, hu, x.H g b hb, rdL_mono (x.heap g) (x.H g) y b k hb h⟩
  | .fn f, u, _, _, h => h
  | .nil, u, _, _, h => h
  | .any, u, _, _, _ => trivial
  | .r k d, u, _, hl, h => rdD_mono (fun b hb => (x.T k b (beqF hl) hb).2) (fun b hb => (x.T k b (beqF hl) hb).1) d u h
  | .z d, u, _, _, h => rsD_mono (fun b hb => (x.Z b hb).2) (fun b hb => (x.Z b hb).1) d u h
  | .zq y j, u, _, _, ⟨b, k, hu, hb, h⟩ => ⟨b, k, hu, (x.Z b hb).1, rsL_mono (fun b hb => (x.Z b hb).2) (fun b hb => (x.Z b hb).1) y b k hb h⟩
  | .wn o n, u, ho, _, .inl ⟨h1, h2⟩ => .inl ⟨(x.n o (beqF ho)).2 h1, h2⟩
  | .wn o n, u, ho, _, .inr ⟨h1, b, c, h, hu⟩ => .inr ⟨fun k => h1 ((x.n o (beqF ho)).1 k), b, c, x.r _ _ (beqF ho) h, hu⟩
theorem CV_kg (x : KG q l E w E' w') : ∀ {cs : List C} {us : List Value}, hasCs q cs = false → hasRs l cs = false → CV E w cs us → CV E' w' cs us
  | [], [], _, _, _ => trivial
  | c :: cs, u :: us, h1, h2, h => by
    simp only [hasCs, hasRs, Bool.or_eq_false_iff] at h1 h2
    exact ⟨cvC_kg x h1.1 h2.1 h.1, CV_kg x h1.2 h2.2 h.2⟩
  | [], _ :: _, _, _, h => h.elim
  | _ :: _, [], _, _, h => h.elim
theorem cvV_kg (x : KG q l E w E' w') {v : V} {u : Value} (h1 : v.has q = false) (h2 : v.hasR l = false) (h : cvV E w v u) : cvV E' w' v u := by
  cases v with
  | c c => exact cvC_kg x h1 h2 h
  | agg cs => obtain ⟨arr, hu, h⟩ := h; exact ⟨arr, hu, CV_kg x h1 h2 h⟩
theorem VV_kg (x : KG q l E w E' w') : ∀ {cs : List V} {us : List Value}, hasVs q cs = false → hasRVs l cs = false → VV E w cs us → VV E' w' cs us
  | [], [], _, _, _ => trivial
  | c :: cs, u :: us, h1, h2, h => by
    simp only [hasVs, hasRVs, Bool.or_eq_false_iff] at h1 h2
    exact ⟨cvV_kg x h1.1 h2.1 h.1, VV_kg x h1.2 h2.2 h.2⟩
  | [], _ :: _, _, _, h => h.elim
  | _ :: _, [], _, _, h => h.elim
theorem cvT_kg (x : KG q l E w E' w') {t : T} {u : Value} (h1 : t.has q = false) (h2 : t.hasR l = false) (h : cvT E w t u) : cvT E' w' t u := by
  cases t with
  | v v => exact cvV_kg x h1 h2 h
  | tup ts => obtain ⟨arr, hu, h⟩ := h; exact ⟨arr, hu, VV_kg x h1 h2 h⟩
  | any => trivial
def Ob.hasR (l : Nat) : Ob → Bool
  | .var _ cs => hasRs l cs
  | .abs j _ => Nat.beq j l
  | _ => false
theorem relOb_kg (x : KG q l E w E' w') {o : Nat} {ob : Ob} (ho : o ≠ q) (h1 : ob.hasO q = false) (h2 : ob.hasR l = false) (hb : ∀ b c, E.r o = some (b, c) → w'.heap[b]? = w.heap[b]?) (hF : ∀ b c, E.r o = some (b, c) → ¬ E.F b → ¬ E'.F b) (h : relOb E w o ob) : relOb E' w' o ob := by
  cases ob with
  | var ty cs =>
    obtain ⟨b, c, arr, hr, hh', hc, hf⟩ := h
    exact ⟨b, c, arr, x.r _ _ ho hr, (hb b c hr).trans hh', CV_kg x h1 h2 hc, hF b c hr hf⟩
  | row ty sz els g m =>
    obtain ⟨b, c, arr, hr, hh', a1, a2, a3, a4, a5, a6, a7⟩ := h
    exact ⟨b, c, arr, x.r _ _ ho hr, (hb b c hr).trans hh', a1, a2, a3, a4, rdLL_mono' (x.heap g) (x.H g) (hb b c hr) _ _ a5, fun hm => hF b c hr (a6 hm), fun hm => ⟨x.H false b (a7 hm).1, fun hg => x.H true b ((a7 hm).2 hg)⟩⟩
  | rown ty sz els g =>
    rcases h with ⟨h0, h1⟩ | ⟨h0, b, c, arr, hr, hh', a1, a2, a3, a4, a5, a6⟩
    · exact .inl ⟨(x.n o ho).2 h0, h1⟩
    · exact .inr ⟨fun h => h0 ((x.n o ho).1 h), b, c, arr, x.r _ _ ho hr, (hb b c hr).trans hh', a1, a2, a3, a4, rdLL_mono' (x.heap g) (x.H g) (hb b c hr) _ _ a5, hF b c hr a6⟩
  | abs j y =>
    rcases h with ⟨h0, h1⟩ | ⟨h0, b, c, hr, a1, a2⟩
    · exact .inl ⟨(x.n o ho).2 h0, h1⟩
    · exact .inr ⟨fun h => h0 ((x.n o ho).1 h), b, c, x.r _ _ ho hr, y.st _ _ _ _ _ _ a1 (fun k hk => (x.T j k (beqF h2) hk).1) (hb b c hr) (fun k hk => (x.T j k (beqF h2) hk).2), hF b c hr a2⟩
end
/-- Object o taken out of a state. -/
def delO (o : Nat) : List (Nat × Ob) → List (Nat × Ob)
  | [] => []
  | (k, x) :: r => bif Nat.beq k o then delO o r else (k, x) :: delO o r
theorem delO_go {o l : Nat} {x : Ob} : ∀ {ob : List (Nat × Ob)}, go (delO o ob) l = some x → l ≠ o ∧ go ob l = some x
  | [], h => by cases h
  | (k, y) :: r, h => by
    rw [delO] at h
    cases hk : Nat.beq k o with
    | true =>
      rw [hk] at h
      obtain ⟨h1, h2⟩ := delO_go h
      have := Nat.eq_of_beq_eq_true hk; subst this
      exact ⟨h1, by rw [go_other _ _ (Ne.symm h1)]; exact h2⟩
    | false =>
      rw [hk] at h
      by_cases e : k = l
      · subst e
        simp only [cond_false] at h
        rw [go_same] at h ⊢; exact ⟨beqF hk, h⟩
      · simp only [cond_false] at h
        rw [go_other _ _ e] at h ⊢; exact delO_go h
/-- No object names label q or region l. -/
def okO (q l : Nat) : List (Nat × Ob) → Bool
  | [] => true
  | (_, x) :: r => (!x.hasO q && !x.hasR l) && okO q l r
theorem okO_go {q l o : Nat} {x : Ob} : ∀ {ob : List (Nat × Ob)}, okO q l ob = true → go ob o = some x → x.hasO q = false ∧ x.hasR l = false
  | [], _, h => by cases h
  | (k, y) :: r, h0, h => by
    simp only [okO, Bool.and_eq_true, Bool.not_eq_true'] at h0
    by_cases e : k = o
    · subst e; rw [go_same] at h; cases h; exact h0.1
    · rw [go_other _ _ e] at h; exact okO_go h0.2 h
theorem rel_kg {N : Nat} {cx cx' : Cx} {E E' : Env} {st : St} {a : Act} {w w' : World} {q l o nx' : Nat} {sl1 sl2 : List (Nat × T)} {ob1 : List (Nat × Ob)} {y : Ob} (hR : Rel N cx E st a w) (ok' : EnvOK cx' E' w') (kg : KG q l E w E' w')
    (h1 : killS q st.sl = some sl1) (h2 : dropS l sl1 = some sl2) (h3 : delO q (delO o st.ob) = ob1) (h4 : okO q l ob1 = true) (hy : relOb E' w' o y)
    (hb : ∀ k b c, k ≠ q → k ≠ o → E.r k = some (b, c) → w'.heap[b]? = w.heap[b]?) (hF : ∀ k b c, k ≠ q → k ≠ o → E.r k = some (b, c) → ¬ E.F b → ¬ E'.F b) (hdom : ∀ o x, E'.r o = some x → o < nx') (htd : ∀ l b, E'.T l b → l < nx') :
    Rel N cx' E' ⟨sl2, (o, y) :: ob1, nx'⟩ a w' := by
  subst h3
  refine ⟨ok', hdom, fun k x hk => ?_, fun k => ?_, hR.dfr, hR.size, htd⟩
  · by_cases e : o = k
    · subst e
      rw [go_same] at hk; cases hk; exact hy
    · rw [go_other _ _ e] at hk
      obtain ⟨k1, k2⟩ := okO_go h4 hk
      obtain ⟨k3, k4⟩ := delO_go hk
      obtain ⟨k5, k6⟩ := delO_go k4
      exact relOb_kg kg k3 k1 k2 (fun b c hr => hb k b c k3 k5 hr) (fun b c hr => hF k b c k3 k5 hr) (hR.obs k x k6)
  · rcases dropS_gt h2 k with e | ⟨e1, e2⟩
    · show cvT E' w' (gt sl2 k) _; rw [e]; trivial
    · rcases killS_gt h1 k with e | ⟨e3, e4⟩
      · show cvT E' w' (gt sl2 k) _; rw [e1, e]; trivial
      · show cvT E' w' (gt sl2 k) _
        rw [e1, e3]
        exact cvT_kg kg e4 (by rw [e3] at e2; exact e2) (hR.sl k)
/-! rows of numbers, and rows of pairs of a number and such a row -/
def nv : Option (Nat × Nat) → Nat → Value
  | none, _ => .slice none 0 0
  | some (k, c), n => .slice (some ⟨k, 0, none⟩) n c
def RowI (w : World) (nt : TypeId) (k c : Nat) (xs : List Int) : Prop := (∃ arr, w.heap[k]? = some (.cells arr nt (0, 0)) ∧ arr.size = c) ∧ xs.length ≤ c ∧ c ≤ maxLen ∧ ∀ j x, xs[j]? = some x → w.cell? ⟨k, j, none⟩ = some (.int .i64 x)
def NestI (w : World) (R : Nat → Prop) (nt : TypeId) : Option (Nat × Nat) → List Int → Prop
  | none, xs => xs = []
  | some (k, c), xs => R k ∧ RowI w nt k c xs
theorem RowI.rd {w : World} {nt : TypeId} {k c : Nat} {xs : List Int} (h : RowI w nt k c xs) (F : Nat → Prop) : rdLL w F (xs.map eI) k 0 := by
  refine rdLL_of (sz := 1) (by simp [eI]) fun i e hi => ?_
  rw [List.getElem?_map] at hi
  cases hx : xs[i]? with
  | none => rw [hx] at hi; cases hi
  | some x =>
    rw [hx] at hi; cases hi
    rw [eI, rdL, rdL]
    exact ⟨⟨_, by simpa using h.2.2.2 i x hx, by rw [rdD]⟩, trivial⟩
theorem RowI.of {w : World} {nt : TypeId} {k c : Nat} {xs : List Int} {F : Nat → Prop} {arr : Array Value} (hh : w.heap[k]? = some (.cells arr nt (0, 0))) (ha : arr.size = c * 1) (hl : (xs.map eI).length ≤ c) (hc : c ≤ maxLen) (h : rdLL w F (xs.map eI) k 0) : RowI w nt k c xs := by
  refine ⟨⟨arr, hh, by omega⟩, by simpa using hl, hc, fun j x hx => ?_⟩
  have := rdLL_at (sz := 1) (i := j) (e := eI x) h (by simp [eI]) (by rw [List.getElem?_map, hx]; rfl)
  rw [eI, rdL] at this
  obtain ⟨u, h1, h2⟩ := this.1
  rw [rdD] at h2; subst h2
  simpa using h1
theorem RowI.keep {w w' : World} {nt : TypeId} {k c : Nat} {xs : List Int} (h : RowI w nt k c xs) (hk : w'.heap[k]? = w.heap[k]?) : RowI w' nt k c xs := by
  obtain ⟨⟨arr, h1, h2⟩, h3, h4, h5⟩ := h
  exact ⟨⟨arr, hk.trans h1, h2⟩, h3, h4, fun j x hx => (cell_eq hk).trans (h5 j x hx)⟩
theorem NestI.keep {w w' : World} {R R' : Nat → Prop} {nt : TypeId} {h : Option (Nat × Nat)} {xs : List Int} (hn : NestI w R nt h xs) (hR : ∀ k c, h = some (k, c) → R k → R' k) (hk : ∀ k c, h = some (k, c) → R k → w'.heap[k]? = w.heap[k]?) : NestI w' R' nt h xs := by
  cases h with
  | none => exact hn
  | some p => exact ⟨hR _ _ rfl hn.1, hn.2.keep (hk _ _ rfl hn.1)⟩
/-- A row of numbers at a place that is told. -/
def Hid.loc (nt : TypeId) (A : Option Addr) (n c : Nat) (xs : List Int) : Hid where
  nl := A = none ∧ n = 0 ∧ c = 0 ∧ xs = []
  S := fun b k R w => A = some ⟨b, 0, none⟩ ∧ c = k ∧ n = xs.length ∧ RowI w nt b k xs
  st := by
    rintro b c' R R' w w' ⟨h1, h2, h3, h4⟩ hR hb hk
    exact ⟨h1, h2, h3, h4.keep hb⟩
abbrev Hole := Option (Nat × Option Addr × Nat × Nat)
def holeAt : Hole → Nat → Bool
  | none, _ => false
  | some (j, _), i => Nat.beq j i
structure CxS (ty nt : TypeId) (els : List (Int × List Int)) (ho : Hole) (b c : Nat) (R : Nat → Prop) (w : World) (hd : Nat → Option (Nat × Nat)) : Prop where
  blk : ∃ arr, w.heap[b]? = some (.cells arr ty (0, 0)) ∧ arr.size = c * 2
  len : els.length ≤ c
  cap : c ≤ maxLen
  a : ∀ i e, els[i]? = some e → w.cell? ⟨b, i * 2, none⟩ = some (.int .i64 e.1)
  s : ∀ i e, els[i]? = some e → holeAt ho i = false → w.cell? ⟨b, i * 2 + 1, none⟩ = some (nv (hd i) e.2.length)
  ne : ∀ i e, els[i]? = some e → holeAt ho i = false → NestI w R nt (hd i) e.2
  inj : ∀ i j k c c', i < els.length → j < els.length → holeAt ho i = false → holeAt ho j = false → hd i = some (k, c) → hd j = some (k, c') → i = j
  h : ∀ i A n k, ho = some (i, A, n, k) → w.cell? ⟨b, i * 2 + 1, none⟩ = some (.slice A n k)
/-- A row of pairs of a number and a row of numbers that lies alone in the region. -/
def Hid.cx (ty nt : TypeId) (els : List (Int × List Int)) (ho : Hole) : Hid where
  nl := els = []
  S := fun b c R w => ∃ hd, CxS ty nt els ho b c R w hd
  st := by
    rintro b c R R' w w' ⟨hd, h⟩ hR hb hk
    obtain ⟨⟨arr, h1, h2⟩, h3, h4, h5, h6, h7, h8, h9⟩ := h
    exact ⟨hd, ⟨arr, hb.trans h1, h2⟩, h3, h4, fun i e hi => (cell_eq hb).trans (h5 i e hi), fun i e hi hh => (cell_eq hb).trans (h6 i e hi hh), fun i e hi hh => (h7 i e hi hh).keep (fun k _ _ hk => hR k hk) (fun k _ _ h => hk k h), h8, fun i A n k hh => (cell_eq hb).trans (h9 i A n k hh)⟩
abbrev Ob.cxo (o : Nat) (ty nt : TypeId) (els : List (Int × List Int)) (ho : Hole) : Ob := .abs o (Hid.cx ty nt els ho)
section
variable {P : Program} {d : Option Tmp} {tt : TypeId} {ps : String} {af : Array Edge} {gd : Option (Nat × Bool)} {x y : Operand}
theorem cx_open {E : Env} {w : World} {o : Nat} {ty nt : TypeId} {els : List (Int × List Int)} {ho : Hole} {i : Nat} {e : Int × List Int} (he : els[i]? = some e) (h : relOb E w o (.cxo o ty nt els ho)) :
    ¬ E.n o ∧ ∃ b c hd, E.r o = some (b, c) ∧ CxS ty nt els ho b c (E.T o) w hd ∧ ¬ E.F b := by
  rcases h with ⟨_, h1⟩ | ⟨h0, b, c, hr, ⟨hd, h1⟩, h2⟩
  · have h1 : els = [] := h1
    subst h1; simp at he
  · exact ⟨h0, b, c, hd, hr, h1, h2⟩
/-- A nested row is read. -/
theorem n_load_cx {t : TypeId} {o i : Nat} {ty nt : TypeId} {els : List (Int × List Int)} {ho : Hole} {e : Int × List Int} [TySc P t] (he : els[i]? = some e) (hh : holeAt ho i = false) :
    AWN P ⟨d, .load t x, tt, ps, af, gd⟩ [(x, .v (.c (.e o 2 i 1)))] [(o, .cxo o ty nt els ho)] (.v (.c (.r o (.l (e.2.map eI))))) [] :=
  awn_pure fun E ac w hn hb => by
    obtain ⟨b, c', hr, hu⟩ := hn x _ (.head _)
    obtain ⟨_, b', c'', hd, hr', hS, _⟩ := cx_open he (hb o _ (.head _))
    rw [hr] at hr'; cases hr'
    refine ⟨nv (hd i) e.2.length, by simp [execOp, hu, loadAt_one (P := P) (t := t) (hS.s i e he hh)], ?_⟩
    have hne := hS.ne i e he hh
    show rdD w (E.T o) (.l (e.2.map eI)) _
    cases hdi : hd i with
    | none =>
      rw [hdi] at hne
      have hne : e.2 = [] := hne
      rw [hne]; exact ⟨none, 0, rfl, Nat.le_refl _, .inl rfl⟩
    | some p =>
      obtain ⟨k, cc⟩ := p
      rw [hdi] at hne
      exact ⟨some ⟨k, 0, none⟩, cc, by simp [nv], by simpa using hne.2.2.1, .inr ⟨k, 0, rfl, hne.1, hne.2.rd _⟩⟩
/-- What lies in the hole is read. -/
theorem n_load_hole {t : TypeId} {o i : Nat} {ty nt : TypeId} {els : List (Int × List Int)} {A : Option Addr} {n k : Nat} {e : Int × List Int} [TySc P t] (he : els[i]? = some e) :
    AWN P ⟨d, .load t x, tt, ps, af, gd⟩ [(x, .v (.c (.e o 2 i 1)))] [(o, .cxo o ty nt els (some (i, A, n, k)))] (.v (.c (.d false (.k A n k)))) [] :=
  awn_pure fun E ac w hn hb => by
    obtain ⟨b, c', hr, hu⟩ := hn x _ (.head _)
    obtain ⟨_, b', c'', hd, hr', hS, _⟩ := cx_open he (hb o _ (.head _))
    rw [hr] at hr'; cases hr'
    exact ⟨.slice A n k, by simp [execOp, hu, loadAt_one (P := P) (t := t) (hS.h i A n k rfl)], by show rdD _ _ _ _; rw [rdD]⟩
end
end Go.AM
