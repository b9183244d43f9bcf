/-
  The abstract machine, part Zl: rows that may be nil.
-/
import Derived.Test.YtlpclccdbmoemaaGreatAmZk
set_option linter.unusedVariables false
namespace Go.AM
open Go.RowKit
theorem EnvOK.setN {cx : Cx} {E : Env} {w : World} (ok : EnvOK cx E w) (n : Nat → Prop) : EnvOK cx { E with n := n } w :=
  ⟨ok.fb, ok.gf, ok.gn, ok.rb, ok.inj, ok.os, ok.tape, ok.output, ok.size, ok.block, ok.pin, ok.ff, ok.gc, ⟨ok.sf.tb, ok.sf.tt, ok.sf.zc, ok.sf.zs, ok.sf.ze⟩⟩
/-! all cells, by a rule -/
def mapCs (f : C → Option C) : List C → Option (List C)
  | [] => some []
  | c :: cs => match f c, mapCs f cs with
    | some x, some xs => some (x :: xs)
    | _, _ => none
def mapV (f : C → Option C) : V → Option V
  | .c c => match f c with
    | some x => some (.c x)
    | none => none
  | .agg cs => match mapCs f cs with
    | some x => some (.agg x)
    | none => none
def mapVs (f : C → Option C) : List V → Option (List V)
  | [] => some []
  | c :: cs => match mapV f c, mapVs f cs with
    | some x, some xs => some (x :: xs)
    | _, _ => none
def mapT (f : C → Option C) : T → Option T
  | .v v => match mapV f v with
    | some x => some (.v x)
    | none => none
  | .tup vs => match mapVs f vs with
    | some x => some (.tup x)
    | none => none
  | .any => some .any
def mapS (f : C → Option C) : List (Nat × T) → Option (List (Nat × T))
  | [] => some []
  | (k, t) :: r => match mapT f t, mapS f r with
    | some x, some xs => some ((k, x) :: xs)
    | _, _ => none
def mapO (f : C → Option C) (g : Nat → Ob → Option Ob) : List (Nat × Ob) → Option (List (Nat × Ob))
  | [] => some []
  | (k, .var t cs) :: r => match mapCs f cs, mapO f g r with
    | some x, some xs => some ((k, .var t x) :: xs)
    | _, _ => none
  | (k, .row t sz els gg m) :: r => match g k (.row t sz els gg m), mapO f g r with
    | some x, some xs => some ((k, x) :: xs)
    | _, _ => none
  | (k, .rown t sz els gg) :: r => match g k (.rown t sz els gg), mapO f g r with
    | some x, some xs => some ((k, x) :: xs)
    | _, _ => none
  | (k, .abs j y) :: r => match g k (.abs j y), mapO f g r with
    | some x, some xs => some ((k, x) :: xs)
    | _, _ => none
section
variable {f : C → Option C} {E E' : Env} {w w' : World} (hf : ∀ c c' u, f c = some c' → cvC E w c u → cvC E' w' c' u)
include hf
theorem mapCs_ok : ∀ {cs cs' : List C} {us : List Value}, mapCs f cs = some cs' → CV E w cs us → CV E' w' cs' us
  | [], cs', us, h, hc => by
    simp [mapCs] at h; subst h
    cases us with
    | nil => trivial
    | cons _ _ => exact hc.elim
  | c :: cs, cs', us, h, hc => by
    cases us with
    | nil => exact hc.elim
    | cons u us =>
      simp only [mapCs] at h
      split at h
      · rename_i h1 h2; simp at h; subst h; exact ⟨hf _ _ _ h1 hc.1, mapCs_ok h2 hc.2⟩
      · cases h
theorem mapV_ok {v v' : V} {u : Value} (h : mapV f v = some v') (hv : cvV E w v u) : cvV E' w' v' u := by
  cases v with
  | c c =>
    simp only [mapV] at h
    split at h
    · rename_i h1; simp at h; subst h; exact hf _ _ _ h1 hv
    · cases h
  | agg cs =>
    simp only [mapV] at h
    split at h
    · rename_i h1; simp at h; subst h; obtain ⟨arr, hu, hc⟩ := hv; exact ⟨arr, hu, mapCs_ok hf h1 hc⟩
    · cases h
theorem mapVs_ok : ∀ {cs cs' : List V} {us : List Value}, mapVs f cs = some cs' → VV E w cs us → VV E' w' cs' us
  | [], cs', us, h, hc => by
    simp [mapVs] at h; subst h
    cases us with
    | nil => trivial
    | cons _ _ => exact hc.elim
  | c :: cs, cs', us, h, hc => by
    cases us with
    | nil => exact hc.elim
    | cons u us =>
      simp only [mapVs] at h
      split at h
      · rename_i h1 h2; simp at h; subst h; exact ⟨mapV_ok hf h1 hc.1, mapVs_ok h2 hc.2⟩
      · cases h
theorem mapT_ok {v v' : T} {u : Value} (h : mapT f v = some v') (hv : cvT E w v u) : cvT E' w' v' u := by
  cases v with
  | v v =>
    simp only [mapT] at h
    split at h
    · rename_i h1; simp at h; subst h; exact mapV_ok hf h1 hv
    · cases h
  | tup vs =>
    simp only [mapT] at h
    split at h
    · rename_i h1; simp at h; subst h; obtain ⟨arr, hu, hc⟩ := hv; exact ⟨arr, hu, mapVs_ok hf h1 hc⟩
    · cases h
  | any => simp [mapT] at h; subst h; trivial
theorem mapS_ok {k : Nat} {u : Value} : ∀ {sl sl' : List (Nat × T)}, mapS f sl = some sl' → cvT E w (gt sl k) u → cvT E' w' (gt sl' k) u
  | [], sl', h, _ => by simp [mapS] at h; subst h; trivial
  | (j, t) :: r, sl', h, hc => by
    simp only [mapS] at h
    split at h
    · rename_i h1 h2
      simp at h; subst h
      by_cases hj : j = k
      · subst hj; rw [gt_same] at hc ⊢; exact mapT_ok hf h1 hc
      · rw [gt_other _ _ hj] at hc ⊢; exact mapS_ok h2 hc
    · cases h
end
theorem mapO_go {f : C → Option C} {g : Nat → Ob → Option Ob} {l : Nat} {y : Ob} : ∀ {ob ob' : List (Nat × Ob)}, mapO f g ob = some ob' → go ob' l = some y →
    (∃ t cs cs', go ob l = some (.var t cs) ∧ mapCs f cs = some cs' ∧ y = .var t cs') ∨ (∃ x, go ob l = some x ∧ (∀ t cs, x ≠ .var t cs) ∧ g l x = some y)
  | [], ob', h, hy => by simp [mapO] at h; subst h; cases hy
  | (k, x) :: r, ob', h, hy => by
    cases x with
    | var t cs =>
      simp only [mapO] at h
      split at h
      · rename_i h1 h2
        simp at h; subst h
        by_cases hk : k = l
        · subst hk; rw [go_same] at hy ⊢; cases hy; exact .inl ⟨t, cs, _, rfl, h1, rfl⟩
        · rw [go_other _ _ hk] at hy ⊢; exact mapO_go h2 hy
      · cases h
    | row t sz els gg m =>
      simp only [mapO] at h
      split at h
      · rename_i h1 h2
        simp at h; subst h
        by_cases hk : k = l
        · subst hk; rw [go_same] at hy ⊢; cases hy; exact .inr ⟨_, rfl, by simp, h1⟩
        · rw [go_other _ _ hk] at hy ⊢; exact mapO_go h2 hy
      · cases h
    | rown t sz els gg =>
      simp only [mapO] at h
      split at h
      · rename_i h1 h2
        simp at h; subst h
        by_cases hk : k = l
        · subst hk; rw [go_same] at hy ⊢; cases hy; exact .inr ⟨_, rfl, by simp, h1⟩
        · rw [go_other _ _ hk] at hy ⊢; exact mapO_go h2 hy
      · cases h
    | abs j z =>
      simp only [mapO] at h
      split at h
      · rename_i h1 h2
        simp at h; subst h
        by_cases hk : k = l
        · subst hk; rw [go_same] at hy ⊢; cases hy; exact .inr ⟨_, rfl, by simp, h1⟩
        · rw [go_other _ _ hk] at hy ⊢; exact mapO_go h2 hy
      · cases h
/-! a row becomes one that may be nil -/
def toNC (o : Nat) : C → Option C
  | .w l n => match Nat.beq l o with
    | true => some (.wn l n)
    | false => some (.w l n)
  | .wn l n => match Nat.beq l o with
    | true => some .any
    | false => some (.wn l n)
  | c => some c
def toNG (o : Nat) (k : Nat) : Ob → Option Ob
  | .row t sz els g true => match Nat.beq k o with
    | true => some (.rown t sz els g)
    | false => some (.row t sz els g true)
  | x => some x
theorem weak_toN {N nx rt sz : Nat} {els : List (List D)} {g : Bool} {sl sl' : List (Nat × T)} {ob ob' : List (Nat × Ob)} (o : Nat) (ho : go ob o = some (.row rt sz els g true)) (hs : mapS (toNC o) sl = some sl') (hb : mapO (toNC o) (toNG o) ob = some ob') : Weak N ⟨sl, ob, nx⟩ ⟨sl', ob', nx⟩ := by
  intro cx E a w hR
  have hf : ∀ c c' u, toNC o c = some c' → cvC E w c u → cvC { E with n := fun l => l ≠ o ∧ E.n l } w c' u := by
    intro c c' u h hc
    cases c with
    | w l n =>
      simp only [toNC] at h
      split at h
      · rename_i hb
        have := Nat.eq_of_beq_eq_true hb
        subst this
        cases h
        exact .inr ⟨fun h => h.1 rfl, hc⟩
      · cases h; exact hc
    | wn l n =>
      simp only [toNC] at h
      split at h
      · cases h; trivial
      · rename_i hb
        have := beqF hb
        cases h
        rcases hc with ⟨h1, h2⟩ | ⟨h1, h2⟩
        · exact .inl ⟨⟨this, h1⟩, h2⟩
        · exact .inr ⟨fun h => h1 h.2, h2⟩
    | _ => simp only [toNC] at h; cases h; exact hc
  refine ⟨{ E with n := fun l => l ≠ o ∧ E.n l }, hR.ok.setN _, hR.dom, fun l y hl => ?_, fun k => mapS_ok hf hs (hR.sl k), hR.dfr, hR.size, hR.td⟩
  rcases mapO_go hb hl with ⟨t, cs, cs', h1, h2, rfl⟩ | ⟨x, h1, h2, h3⟩
  · obtain ⟨b, c, arr, k1, k2, k3, k4⟩ := hR.obs l _ h1
    exact ⟨b, c, arr, k1, k2, mapCs_ok hf h2 k3, k4⟩
  · have hx := hR.obs l x h1
    cases x with
    | var t cs => exact absurd rfl (h2 t cs)
    | row t sz els g m =>
      cases m with
      | true =>
        simp only [toNG] at h3
        split at h3
        · rename_i hb
          have := Nat.eq_of_beq_eq_true hb
          subst this
          cases h3
          obtain ⟨b, c, arr, k1, k2, k3, k4, k5, k6, k7, k8, _⟩ := hx
          exact .inr ⟨fun h => h.1 rfl, b, c, arr, k1, k2, k3, k4, k5, k6, k7, k8 rfl⟩
        · cases h3; exact hx
      | false => simp only [toNG] at h3; cases h3; exact hx
    | rown t sz els g =>
      simp only [toNG] at h3
      cases h3
      have hlo : l ≠ o := fun e => by subst e; rw [ho] at h1; cases h1
      rcases hx with ⟨k1, k2⟩ | ⟨k1, k2⟩
      · exact .inl ⟨⟨hlo, k1⟩, k2⟩
      · exact .inr ⟨fun h => k1 h.2, k2⟩
    | abs j y =>
      simp only [toNG] at h3
      cases h3
      have hlo : l ≠ o := fun e => by subst e; rw [ho] at h1; cases h1
      rcases hx with ⟨k1, k2⟩ | ⟨k1, k2⟩
      · exact .inl ⟨⟨hlo, k1⟩, k2⟩
      · exact .inr ⟨fun h => k1 h.2, k2⟩
/-! a row that is not empty is not nil -/
def unNC (o : Nat) : C → Option C
  | .wn l n => match Nat.beq l o with
    | true => some (.w l n)
    | false => some (.wn l n)
  | c => some c
def unNG (o : Nat) (k : Nat) : Ob → Option Ob
  | .rown t sz els g => match Nat.beq k o with
    | true => some (.row t sz els g true)
    | false => some (.rown t sz els g)
  | x => some x
theorem weak_unN {N nx ty sz : Nat} {els : List (List D)} {g : Bool} {sl sl' : List (Nat × T)} {ob ob' : List (Nat × Ob)} (o : Nat) (ho : go ob o = some (.rown ty sz els g)) (hne : els ≠ []) (hs : mapS (unNC o) sl = some sl') (hb : mapO (unNC o) (unNG o) ob = some ob') : Weak N ⟨sl, ob, nx⟩ ⟨sl', ob', nx⟩ := by
  intro cx E a w hR
  have hn : ¬ E.n o := by
    rcases hR.obs o _ ho with ⟨_, h⟩ | ⟨h, _⟩
    · exact absurd h hne
    · exact h
  have hf : ∀ c c' u, unNC o c = some c' → cvC E w c u → cvC E w c' u := by
    intro c c' u h hc
    cases c with
    | wn l n =>
      simp only [unNC] at h
      split at h
      · rename_i hb
        have := Nat.eq_of_beq_eq_true hb
        subst this
        cases h
        rcases hc with ⟨h1, _⟩ | ⟨_, h2⟩
        · exact absurd h1 hn
        · exact h2
      · cases h; exact hc
    | _ => simp only [unNC] at h; cases h; exact hc
  refine ⟨E, hR.ok, hR.dom, fun l y hl => ?_, fun k => mapS_ok hf hs (hR.sl k), hR.dfr, hR.size, hR.td⟩
  rcases mapO_go hb hl with ⟨t, cs, cs', h1, h2, rfl⟩ | ⟨x, h1, h2, h3⟩
  · obtain ⟨b, c, arr, k1, k2, k3, k4⟩ := hR.obs l _ h1
    exact ⟨b, c, arr, k1, k2, mapCs_ok hf h2 k3, k4⟩
  · have hx := hR.obs l x h1
    cases x with
    | var t cs => exact absurd rfl (h2 t cs)
    | row t sz els g m => simp only [unNG] at h3; cases h3; exact hx
    | rown t sz els g =>
      simp only [unNG] at h3
      split at h3
      · rename_i hb
        have := Nat.eq_of_beq_eq_true hb
        subst this
        cases h3
        rcases hx with ⟨k1, k2⟩ | ⟨_, b, c, arr, k1, k2, k3, k4, k5, k6, k7, k8⟩
        · exact absurd k1 hn
        · exact ⟨b, c, arr, k1, k2, k3, k4, k5, k6, k7, fun _ => k8, fun h => by cases h⟩
      · cases h3; exact hx
    | abs j y => simp only [unNG] at h3; cases h3; exact hx
/-! nil becomes a row that may be nil -/
def slLt (n : Nat) : List (Nat × T) → Bool
  | [] => true
  | (_, t) :: r => t.lt n && slLt n r
def obLtC (n : Nat) : List (Nat × Ob) → Bool
  | [] => true
  | (l, x) :: r => (nlt l n && x.lt n) && obLtC n r
theorem slLt_gt {n : Nat} : ∀ {sl : List (Nat × T)} (k : Nat), slLt n sl = true → (gt sl k).lt n = true
  | [], k, _ => rfl
  | (j, t) :: r, k, h => by
    simp only [slLt, Bool.and_eq_true] at h
    by_cases hj : j = k
    · subst hj; rw [gt_same]; exact h.1
    · rw [gt_other _ _ hj]; exact slLt_gt k h.2
theorem obLtC_go {n : Nat} : ∀ {ob : List (Nat × Ob)} {l : Nat} {x : Ob}, obLtC n ob = true → go ob l = some x → l < n ∧ x.lt n = true
  | (k, y) :: r, l, x, h, hl => by
    simp only [obLtC, Bool.and_eq_true] at h
    by_cases hk : k = l
    · subst hk; rw [go_same] at hl; cases hl; exact ⟨blt_lt h.1.1, h.1.2⟩
    · rw [go_other _ _ hk] at hl; exact obLtC_go h.2 hl
section
variable {E : Env} {w : World} {n : Nat} {p : Nat → Prop} (hp : ∀ l, l < n → (p l ↔ E.n l))
include hp
theorem cvC_setN {c : C} {u : Value} (hl : c.lt n = true) (h : cvC E w c u) : cvC { E with n := p } w c u := by
  cases c with
  | wn o m =>
    have := hp o (blt_lt hl)
    rcases h with ⟨h1, h2⟩ | ⟨h1, h2⟩
    · exact .inl ⟨this.2 h1, h2⟩
    · exact .inr ⟨fun k => h1 (this.1 k), h2⟩
  | _ => exact h
theorem CV_setN : ∀ {cs : List C} {us : List Value}, cs.all (C.lt n) = true → CV E w cs us → CV { E with n := p } w cs us
  | [], [], _, _ => trivial
  | c :: cs, u :: us, hl, h => by
    simp only [List.all_cons, Bool.and_eq_true] at hl
    exact ⟨cvC_setN hp hl.1 h.1, CV_setN hl.2 h.2⟩
  | [], _ :: _, _, h => h.elim
  | _ :: _, [], _, h => h.elim
theorem cvV_setN {v : V} {u : Value} (hl : v.lt n = true) (h : cvV E w v u) : cvV { E with n := p } w v u := by
  cases v with
  | c c => exact cvC_setN hp hl h
  | agg cs => obtain ⟨arr, hu, h⟩ := h; exact ⟨arr, hu, CV_setN hp hl h⟩
theorem VV_setN : ∀ {cs : List V} {us : List Value}, cs.all (V.lt n) = true → VV E w cs us → VV { E with n := p } w cs us
  | [], [], _, _ => trivial
  | c :: cs, u :: us, hl, h => by
    simp only [List.all_cons, Bool.and_eq_true] at hl
    exact ⟨cvV_setN hp hl.1 h.1, VV_setN hl.2 h.2⟩
  | [], _ :: _, _, h => h.elim
  | _ :: _, [], _, h => h.elim
theorem cvT_setN {t : T} {u : Value} (hl : t.lt n = true) (h : cvT E w t u) : cvT { E with n := p } w t u := by
  cases t with
  | v v => exact cvV_setN hp hl h
  | tup ts => obtain ⟨arr, hu, h⟩ := h; exact ⟨arr, hu, VV_setN hp hl h⟩
  | any => trivial
theorem relOb_setN {o : Nat} {x : Ob} (ho : o < n) (hl : x.lt n = true) (h : relOb E w o x) : relOb { E with n := p } w o x := by
  cases x with
  | var t cs => obtain ⟨b, c, arr, k1, k2, k3, k4⟩ := h; exact ⟨b, c, arr, k1, k2, CV_setN hp hl k3, k4⟩
  | row t sz els g m => exact h
  | rown t sz els g =>
    rcases h with ⟨h1, h2⟩ | ⟨h1, h2⟩
    · exact .inl ⟨(hp o ho).2 h1, h2⟩
    · exact .inr ⟨fun k => h1 ((hp o ho).1 k), h2⟩
  | abs j y =>
    rcases h with ⟨h1, h2⟩ | ⟨h1, h2⟩
    · exact .inl ⟨(hp o ho).2 h1, h2⟩
    · exact .inr ⟨fun k => h1 ((hp o ho).1 k), h2⟩
end
theorem rel_nn {N nx nx' ty sz : Nat} {g : Bool} {sl : List (Nat × T)} {ob : List (Nat × Ob)} (hs : slLt nx sl = true) (hb : obLtC nx ob = true) (hq : nxt nx = some nx') {cx : Cx} {E : Env} {a : Act} {w : World} (hR : Rel N cx E ⟨sl, ob, nx⟩ a w) :
    Rel N cx { E with n := fun l => l = nx ∨ E.n l } ⟨sl, (nx, .rown ty sz [] g) :: ob, nx'⟩ a w := by
  have hp : ∀ l, l < nx → ((l = nx ∨ E.n l) ↔ E.n l) := fun l h => ⟨fun k => k.resolve_left (by omega), .inr⟩
  have hn : nx' = nx + 1 := by
    unfold nxt at hq
    cases hr : rsv nx with
    | true => rw [hr] at hq; cases hq
    | false => rw [hr] at hq; exact (Option.some.inj hq).symm
  refine ⟨hR.ok.setN _, fun o x h => by have := hR.dom o x h; simp only at this ⊢; omega, fun l x hl => ?_, fun k => cvT_setN hp (slLt_gt k hs) (hR.sl k), hR.dfr, hR.size, fun l b h => by have := hR.td l b h; simp only at this ⊢; omega⟩
  by_cases e : nx = l
  · subst e; rw [go_same] at hl; cases hl; exact .inl ⟨.inl rfl, rfl⟩
  · rw [go_other _ _ e] at hl
    obtain ⟨h1, h2⟩ := obLtC_go hb hl
    exact relOb_setN hp h1 h2 (hR.obs l x hl)
def setC : Nat → C → List C → Option (List C)
  | 0, x, .nil :: cs => some (x :: cs)
  | j + 1, x, c :: cs => match setC j x cs with
    | some r => some (c :: r)
    | none => none
  | _, _, _ => none
theorem setC_ok {E E' : Env} {w : World} {x : C} (hx : cvC E' w x (.slice none 0 0)) : ∀ {j : Nat} {cs cs' : List C} {us : List Value}, setC j x cs = some cs' → CV E w cs us → CV E' w cs us → CV E' w cs' us
  | 0, .nil :: cs, cs', us, h, h1, h2 => by
    simp [setC] at h; subst h
    cases us with
    | nil => exact h1.elim
    | cons u us => have : u = .slice none 0 0 := h1.1; subst this; exact ⟨hx, h2.2⟩
  | j + 1, c :: cs, cs', us, h, h1, h2 => by
    simp only [setC] at h
    split at h
    · rename_i h3
      simp at h; subst h
      cases us with
      | nil => exact h1.elim
      | cons u us => exact ⟨h2.1, setC_ok hx h3 h1.2 h2.2⟩
    · cases h
theorem weak_nnV {N nx nx' o j : Nat} {sl : List (Nat × T)} {ob : List (Nat × Ob)} {vt : TypeId} {cs cs' : List C} (ty sz : Nat) (g : Bool) (ho : go ob o = some (.var vt cs)) (hj : setC j (.wn nx 0) cs = some cs') (hs : slLt nx sl = true) (hb : obLtC nx ob = true) (hq : nxt nx = some nx') :
    Weak N ⟨sl, ob, nx⟩ ⟨sl, (o, .var vt cs') :: (nx, .rown ty sz [] g) :: ob, nx'⟩ := by
  intro cx E a w hR
  have h := rel_nn (ty := ty) (sz := sz) (g := g) hs hb hq hR
  refine ⟨_, h.ok, h.dom, fun l x hl => ?_, h.sl, h.dfr, h.size, h.td⟩
  by_cases e : o = l
  · subst e
    rw [go_same] at hl; cases hl
    have hne : nx ≠ o := fun e => by have := (obLtC_go hb ho).1; omega
    have h2 := h.obs o (.var vt cs) (by rw [go_other _ _ hne]; exact ho)
    obtain ⟨b, c, arr, k1, k2, k3, k4⟩ := hR.obs o _ ho
    obtain ⟨b', c', arr', m1, m2, m3, m4⟩ := h2
    have k1' : E.r o = some (b', c') := m1
    rw [k1] at k1'; cases k1'
    rw [k2] at m2; cases m2
    exact ⟨b, c, arr, k1, k2, setC_ok (x := .wn nx 0) (Or.inl ⟨Or.inl rfl, rfl, rfl⟩) hj k3 m3, k4⟩
  · rw [go_other _ _ e] at hl; exact h.obs l x hl
section
variable {P : Program} {N : Nat} {d : Tmp} {ty : TypeId} {ps : String} {af : Array Edge} {gd : Option (Nat × Bool)} {x y z : Operand} {sl : List (Nat × T)} {ob : List (Nat × Ob)} {nx : Nat}
theorem n_len_wn {d : Option Tmp} {t : TypeId} {o n e sz by_ : Nat} [ht : TySl P t e sz by_] : AWN P ⟨d, .call ⟨.builtin .len, #[x], #[t]⟩, ty, ps, af, gd⟩ [(x, .v (.c (.wn o n)))] [] (tI n) [] :=
  awn_pure fun E ac w hn _ => by
    rcases hn x _ (.head _) with ⟨_, h0, hu⟩ | ⟨_, b, c, hr, hu⟩
    · subst h0; exact ⟨_, by simp [execOp, resolve, invoke, builtin, hu, Builtin.len_, underlying, ht.u, goInt]; rfl, by simp [cvT, cvV, cvC, rdD]⟩
    · exact ⟨_, by simp [execOp, resolve, invoke, builtin, hu, Builtin.len_, underlying, ht.u, goInt]; rfl, by simp [cvT, cvV, cvC, rdD]⟩
theorem lwn {t : TypeId} {o n e sz by_ : Nat} [TySl P t e sz by_] (hx : opT sl x = .v (.c (.wn o n))) (hN : nlt d N = true) : NS0 P N ⟨some d, .call ⟨.builtin .len, #[x], #[t]⟩, ty, ps, af, gd⟩ sl ob nx d (tI n) ⟨d, [(x, .v (.c (.wn o n)))], [], tI n, []⟩ := ns_mk (st := ⟨sl, ob, nx⟩) n_len_wn rfl hN ⟨hx, trivial⟩ trivial rfl
/-- append of something onto a row that may be nil. -/
theorem o_append_wn {st : St} {t : TypeId} {e sz by_ o n : Nat} {els ys : List (List D)} {g gy : Bool} {c : C} {sl' : List (Nat × T)} {ob' : List (Nat × Ob)} [ht : TySl P t e sz by_] (hrv : rsp o = false) (hnv : rsv st.nx = false) (hd : d < N)
    (hx : opT st.sl x = .v (.c (.wn o n))) (hy : opT st.sl y = .v (.c c)) (ho : go st.ob o = some (.rown e sz els g)) (hs : Src st.ob c ys gy) (hk : killS o st.sl = some sl') (hkb : killB o st.ob = some ob')
    (hn : els.length = n) (hne : ys ≠ []) (hol : o < st.nx) (hsz : ∀ e ∈ ys, e.length = sz) (hb : (n + ys.length) * by_ ≤ 140737488355328) (h63 : n + ys.length ≤ 9223372036854775807) :
    AWO P N ⟨some d, .call ⟨.builtin .append, #[x, y], #[t, t]⟩, ty, ps, af, gd⟩ st ⟨(d, .v (.c (.w o (n + ys.length)))) :: sl', (o, .row e sz (els ++ ys) (g && gy) true) :: ob', st.nx⟩ := by
  intro cx E a w hR
  have h1 := hR.op x; rw [hx] at h1
  have h2 := hR.op y; rw [hy] at h2
  have h3 := hR.obs o _ ho
  rcases h1 with ⟨hE, h0, hu⟩ | ⟨hE, b, cc, hr, hu⟩
  · subst h0
    have hels : els = [] := List.eq_nil_of_length_eq_zero hn
    subst hels
    have hq1 : E.r st.nx = none := by
      cases hq : E.r st.nx with
      | none => rfl
      | some p => have := hR.dom _ _ hq; omega
    have hoq : o ≠ st.nx := by omega
    refine Oper.wp_mono ?_ (append_nil_core (P := P) (d := d) (ty := ty) (ps := ps) (af := af) (gd := gd) (t := t) (q := st.nx) hs hne hsz (by simpa using hb) (by omega) hR.ok hR.obs hq1 hnv hu h2)
    rintro a' w' ⟨v, E1, rfl, ok1, ext, hv, hob1, hdom⟩
    obtain ⟨bn, cap, hrq, hvu⟩ := hv
    obtain ⟨bn', cap', arr, hrq', hhn, j3, j4, j5, j6, j7, j8, _⟩ := hob1 _ _ (.head _)
    rw [hrq] at hrq'; cases hrq'
    have hrE : ∀ l p, E1.r l = some p → l = st.nx ∨ E.r l = some p := fun l p h => by
      rcases hdom l p h with h | ⟨ob, h⟩
      · exact .inr h
      · simp at h; exact .inl h.1
    let E2 : Env := { E1 with r := fun l => if l = o then some (bn, cap) else if l = st.nx then none else E1.r l, n := fun l => l ≠ o ∧ E.n l }
    have hr2 : ∀ l b c, E2.r l = some (b, c) → (l = o ∧ b = bn ∧ c = cap) ∨ (l ≠ o ∧ l ≠ st.nx ∧ E1.r l = some (b, c)) := by
      intro l b c h
      have h : (if l = o then some (bn, cap) else if l = st.nx then none else E1.r l) = some (b, c) := h
      split at h
      · cases h; exact .inl ⟨by assumption, rfl, rfl⟩
      · split at h
        · cases h
        · exact .inr ⟨by assumption, by assumption, h⟩
    have hback : ∀ l b c, E2.r l = some (b, c) → ∃ l', E1.r l' = some (b, c) := by
      intro l b c h
      rcases hr2 l b c h with ⟨_, rfl, rfl⟩ | ⟨_, _, h⟩
      · exact ⟨st.nx, hrq⟩
      · exact ⟨l, h⟩
    have ok2 : EnvOK cx E2 w' := by
      refine ⟨ok1.fb, ok1.gf, ok1.gn, fun l b c h => ?_, fun l l' b c c' h h' => ?_, ok1.os, ok1.tape, ok1.output, ok1.size, ok1.block, fun l p hv h => ?_, ok1.ff, ok1.gc, ⟨fun l b h => ?_, ok1.sf.tt, fun b h => ?_, ok1.sf.zs, ok1.sf.ze⟩⟩
      · rcases hr2 l b c h with ⟨_, rfl, rfl⟩ | ⟨_, _, h⟩
        · obtain ⟨k1, k2⟩ := ok1.rb _ _ _ hrq
          exact ⟨k1, .inl (k2.resolve_right (fun k => by rw [hnv] at k; cases k.2))⟩
        · exact ok1.rb l b c h
      · rcases hr2 l b c h with ⟨rfl, rfl, rfl⟩ | ⟨k1, k2, k3⟩ <;> rcases hr2 l' _ c' h' with ⟨rfl, e1, e2⟩ | ⟨m1, m2, m3⟩
        · rfl
        · exact absurd (ok1.inj _ _ _ _ _ m3 hrq) m2
        · subst e1; exact absurd (ok1.inj _ _ _ _ _ k3 hrq) k2
        · exact ok1.inj _ _ _ _ _ k3 m3
      · obtain ⟨b, c⟩ := p
        rcases hr2 l b c h with ⟨rfl, _⟩ | ⟨_, _, h⟩
        · rw [hrv] at hv; cases hv
        · exact ok1.pin l _ hv h
      · obtain ⟨k1, k2, k3, k4⟩ := ok1.sf.tb l b h
        exact ⟨k1, k2, fun l' c hl => (hback l' b c hl).elim fun l'' h'' => k3 l'' c h'', k4⟩
      · obtain ⟨k1, k2, k3, k4⟩ := ok1.sf.zc b h
        exact ⟨k1, k2, fun l' c hl => (hback l' b c hl).elim fun l'' h'' => k3 l'' c h'', k4⟩
    have kp := Keeps.of_ext hR.ok ext
    have kb : KeepsBut o E w E2 w' := ⟨fun l p hl h => by
        show (if l = o then some (bn, cap) else if l = st.nx then none else E1.r l) = some p
        rw [if_neg hl, if_neg (fun e => by subst e; rw [hq1] at h; cases h)]
        exact kp.r _ _ h, kp.H, kp.heap, kp.T, kp.Z, fun l hl => ⟨fun h => h.2, fun h => ⟨hl, h⟩⟩⟩
    have hFb : ∀ b, b < w.heap.size → ¬ E.F b → ¬ E2.F b := fun b hb hn h => (ext.F' b h).elim hn (by omega)
    refine ⟨E2, ok2, fun l p h => ?_, fun l ob hl => ?_, fun k => ?_, hR.dfr, by simpa [Act.put] using hR.size, fun l b h => hR.td l b (by rw [← ext.T]; exact h)⟩
    · obtain ⟨b, c⟩ := p
      rcases hr2 l b c h with ⟨rfl, _⟩ | ⟨_, k2, h⟩
      · exact hol
      · rcases hrE _ _ h with h | h
        · exact absurd h k2
        · exact hR.dom _ _ h
    · by_cases hlo : o = l
      · subst hlo
        rw [go_same] at hl; cases hl
        refine ⟨bn, cap, arr, by show (if o = o then _ else _) = _; rw [if_pos rfl], hhn, j3, by simpa using j4, j5, by simpa using j6, ?_, fun _ => j8 rfl, fun h => by cases h⟩
        simp only [List.nil_append]
        exact rdLL_mono' (fun _ _ => rfl) (fun b hb => by cases g <;> cases gy <;> first | exact hb | exact ok1.gf b hb) rfl _ _ j7
      · rw [go_other _ _ hlo] at hl
        rcases killB_go hkb hl with ⟨t', cs, cs', k1, k2, rfl⟩ | ⟨t', sz', els', g', m', k1, rfl⟩ | ⟨t', sz', els', g', k1, rfl⟩ | ⟨j', y', k1, rfl⟩
        · obtain ⟨bl, cl, arrl, l1, l2, l3, l4⟩ := hR.obs l _ k1
          have hbl := (hR.ok.rb _ _ _ l1).1
          exact ⟨bl, cl, arrl, kb.r _ _ (Ne.symm hlo) l1, (ext.heap bl hbl).trans l2, killC_but kb k2 l3, hFb bl hbl l4⟩
        · obtain ⟨bl, cl, arrl, l1, l2, l3, l4, l5, l6, l7, l8, l9⟩ := hR.obs l _ k1
          have hbl := (hR.ok.rb _ _ _ l1).1
          have hb2 := ext.heap bl hbl
          exact ⟨bl, cl, arrl, kb.r _ _ (Ne.symm hlo) l1, hb2.trans l2, l3, l4, l5, l6, rdLL_mono' (kb.heap _) (kb.H _) hb2 _ _ l7, fun hm => hFb bl hbl (l8 hm), fun hm => ⟨kb.H false _ (l9 hm).1, fun hg => kb.H true _ ((l9 hm).2 hg)⟩⟩
        · rcases hR.obs l _ k1 with ⟨m1, m2⟩ | ⟨l0, bl, cl, arrl, l1, l2, l3, l4, l5, l6, l7, l8⟩
          · exact .inl ⟨⟨Ne.symm hlo, m1⟩, m2⟩
          · have hbl := (hR.ok.rb _ _ _ l1).1
            have hb2 := ext.heap bl hbl
            exact .inr ⟨fun h => l0 h.2, bl, cl, arrl, kb.r _ _ (Ne.symm hlo) l1, hb2.trans l2, l3, l4, l5, l6, rdLL_mono' (kb.heap _) (kb.H _) hb2 _ _ l7, hFb bl hbl l8⟩
        · rcases hR.obs l _ k1 with ⟨m1, m2⟩ | ⟨l0, bl, cl, l1, l2, l3⟩
          · exact .inl ⟨⟨Ne.symm hlo, m1⟩, m2⟩
          · have hbl := (hR.ok.rb _ _ _ l1).1
            have hb2 := ext.heap bl hbl
            exact .inr ⟨fun h => l0 h.2, bl, cl, kb.r _ _ (Ne.symm hlo) l1, y'.st _ _ _ _ _ _ l2 (fun k hk => (kb.T _ k hk).1) hb2 (fun k hk => (kb.T _ k hk).2), hFb bl hbl l3⟩
    · rw [getD_put (by rw [hR.size]; exact hd)]
      by_cases hdk : d = k
      · subst hdk; rw [gt_same, if_pos rfl]; exact ⟨bn, cap, by show (if o = o then _ else _) = _; rw [if_pos rfl], by simpa using hvu⟩
      · rw [gt_other _ _ hdk, if_neg hdk]
        rcases killS_gt hk k with h | ⟨h, h'⟩
        · rw [h]; trivial
        · rw [h]; exact cvT_but kb h' (hR.sl k)
  · rcases h3 with ⟨hE', _⟩ | ⟨_, b', c', arr, hr', hh, ha, hlc, hmx, hes, hrd, hF⟩
    · exact absurd hE' hE
    · rw [hr] at hr'; cases hr'
      exact append_core hR hrv hd hr hu hh ha hlc hmx hes hrd hF hy hs hk hkb hn hsz hb h63
variable {α : Type} {enc : α → List D}
/-- Elements appended to a row that may be nil. -/
theorem apTn {t : TypeId} {e sz by_ o n : Nat} {ys zs : List α} {zd : List (List D)} {g gy gg : Bool} {c : C} {sl' : List (Nat × T)} {ob' : List (Nat × Ob)} [TySl P t e sz by_] (H : apOk by_ (ys ++ zs).length = true) (hne : zs ≠ []) (hzd : zs.map enc = zd) (henc : ∀ a, (enc a).length = sz) (hn : ys.length = n) (hs : Src ob c zd gy) (hd : nlt d N = true)
    (hx : opT sl x = .v (.c (.wn o n))) (hy : opT sl y = .v (.c c)) (ho : go ob o = some (.rown e sz (ys.map enc) g)) (hk : killS o sl = some sl') (hkb : killB o ob = some ob') (hg : (g && gy) = gg) (hrv : rsp o = false) (hnv : rsv nx = false) (hol : nlt o nx = true) :
    AWO P N ⟨some d, .call ⟨.builtin .append, #[x, y], #[t, t]⟩, ty, ps, af, gd⟩ ⟨sl, ob, nx⟩ ⟨(d, .v (.c (.w o (ys ++ zs).length))) :: sl', (o, .row e sz ((ys ++ zs).map enc) gg true) :: ob', nx⟩ := by
  subst hzd; subst hg
  simp only [apOk, decide_eq_true_eq, List.length_append] at H
  have := o_append_wn (st := ⟨sl, ob, nx⟩) (P := P) (N := N) (d := d) (ty := ty) (ps := ps) (af := af) (gd := gd) (t := t) (e := e) (sz := sz) (by_ := by_) hrv hnv (blt_lt hd) hx hy ho hs hk hkb (by simpa using hn) (by simpa using hne) (blt_lt hol) (lenM henc zs) (by subst hn; simp only [List.length_map]; exact H.1) (by subst hn; simp only [List.length_map]; omega)
  rw [← List.map_append, List.length_map, ← hn, ← List.length_append] at this
  exact this
end
end Go.AM
