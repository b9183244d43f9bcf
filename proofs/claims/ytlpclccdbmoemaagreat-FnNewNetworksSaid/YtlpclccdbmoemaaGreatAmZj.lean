/-
  The abstract machine, part Zj: operations that take a row away: its label is given up.
-/
import Derived.Test.YtlpclccdbmoemaaGreatAmZf
set_option linter.unusedVariables false
namespace Go.AM
open Go.RowKit
def Ob.hasO (o : Nat) : Ob → Bool
  | .var _ cs => hasCs o cs
  | .row _ _ _ _ _ => false
  | .rown _ _ _ _ => false
  | .abs _ _ => false
/-- What was there is as it was, but for the blocks of the objects 'up' and of the label 'kl', which is given up. -/
structure ExtK (up : List (Nat × Ob)) (kl : Option Nat) (E : Env) (w : World) (E' : Env) (w' : World) : Prop where
  r : ∀ o x, kl ≠ some o → E.r o = some x → E'.r o = some x
  F : ∀ b, E.F b → E'.F b
  G : ∀ b, E.G b → E'.G b
  F' : ∀ b, E'.F b → E.F b ∨ w.heap.size ≤ b ∨ ∀ l c, kl ≠ some l → E.r l ≠ some (b, c)
  heap : ∀ b, b < w.heap.size → (∀ l ob c, (l, ob) ∈ up → E.r l ≠ some (b, c)) → (∀ l c, kl = some l → E.r l ≠ some (b, c)) → w'.heap[b]? = w.heap[b]?
  own : ∀ l ob b c, (l, ob) ∈ up → E.r l = some (b, c) → ¬ E.F b
  ownk : ∀ l b c, kl = some l → E.r l = some (b, c) → ¬ E.F b
  T : E'.T = E.T
  Z : E'.Z = E.Z
  n : E'.n = E.n
theorem ExtK.of_extW {E E' : Env} {w w' : World} {up : List (Nat × Ob)} (x : ExtW up E w E' w') : ExtK up none E w E' w' :=
  ⟨fun o y _ h => x.r o y h, x.F, x.G, (fun b h => (x.F' b h).elim .inl (fun h => .inr (.inl h))), fun b h h' _ => x.heap b h h', x.own, (fun _ _ _ h => by cases h), x.T, x.Z, x.n⟩
section
variable {cx : Cx} {E E' : Env} {w w' : World} {up : List (Nat × Ob)} {kl : Option Nat}
theorem ExtK.hF (ok : EnvOK cx E w) (x : ExtK up kl E w E' w') (b : Nat) (h : E.F b) : w'.heap[b]? = w.heap[b]? :=
  x.heap b (ok.fb b h) (fun l ob c hm hr => x.own l ob b c hm hr h) (fun l c hl hr => x.ownk l b c hl hr h)
theorem ExtK.hH (ok : EnvOK cx E w) (x : ExtK up kl E w E' w') (g : Bool) (b : Nat) (h : E.H g b) : w'.heap[b]? = w.heap[b]? := by
  cases g
  · exact x.hF ok b h
  · exact x.hF ok b (ok.gf b h)
theorem ExtK.H (x : ExtK up kl E w E' w') (g : Bool) (b : Nat) (h : E.H g b) : E'.H g b := by
  cases g
  · exact x.F b h
  · exact x.G b h
theorem ExtK.hT (ok : EnvOK cx E w) (x : ExtK up kl E w E' w') (l b : Nat) (h : E.T l b) : E'.T l b ∧ w'.heap[b]? = w.heap[b]? :=
  ⟨by rw [x.T]; exact h, x.heap b (ok.sf.tb l b h).1.1 (fun l' ob c _ hr => (ok.sf.tb l b h).2.2.1 l' c hr) (fun l' c _ hr => (ok.sf.tb l b h).2.2.1 l' c hr)⟩
theorem ExtK.hZ (ok : EnvOK cx E w) (x : ExtK up kl E w E' w') (b : Nat) (h : E.Z b) : E'.Z b ∧ SimB w w' b :=
  ⟨by rw [x.Z]; exact h, .of_eq (x.heap b (ok.sf.zb b h).1.2.1 (fun l' ob c _ hr => (ok.sf.zb b h).2.2.1 l' c hr) (fun l' c _ hr => (ok.sf.zb b h).2.2.1 l' c hr))⟩
theorem ExtK.keeps (ok : EnvOK cx E w) (x : ExtK up none E w E' w') : Keeps E w E' w' := ⟨fun o y h => x.r o y (by simp) h, x.H, x.hH ok, x.hT ok, x.hZ ok, x.n⟩
theorem ExtK.but {o : Nat} (ok : EnvOK cx E w) (x : ExtK up (some o) E w E' w') : KeepsBut o E w E' w' := ⟨fun l y hl h => x.r l y (by simpa using Ne.symm hl) h, x.H, x.hH ok, x.hT ok, x.hZ ok, fun l _ => by rw [x.n]⟩
theorem cvT_extK (ok : EnvOK cx E w) (x : ExtK up kl E w E' w') {t : T} {u : Value} (hf : ∀ o, kl = some o → t.has o = false) (h : cvT E w t u) : cvT E' w' t u := by
  cases kl with
  | none => exact cvT_keeps (x.keeps ok) h
  | some o => exact cvT_but (x.but ok) (hf o rfl) h
theorem CV_extK (ok : EnvOK cx E w) (x : ExtK up kl E w E' w') {cs : List C} {us : List Value} (hf : ∀ o, kl = some o → hasCs o cs = false) (h : CV E w cs us) : CV E' w' cs us := by
  cases kl with
  | none => exact CV_keeps (x.keeps ok) h
  | some o => exact CV_but (x.but ok) (hf o rfl) h
theorem relOb_extK (ok : EnvOK cx E w) (x : ExtK up kl E w E' w') {o : Nat} {ob : Ob} (hno : ∀ ob', (o, ob') ∉ up) (hk : kl ≠ some o) (hh : ∀ d, kl = some d → ob.hasO d = false) (h : relOb E w o ob) : relOb E' w' o ob := by
  have hb : ∀ b c, E.r o = some (b, c) → w'.heap[b]? = w.heap[b]? := fun b c hr =>
    x.heap b (ok.rb o b c hr).1 (fun l ob' c' hm hr' => by have := ok.inj _ _ _ _ _ hr hr'; subst this; exact hno _ hm) (fun l c' hl hr' => by have := ok.inj _ _ _ _ _ hr hr'; subst this; exact hk hl)
  have hF : ∀ b c, E.r o = some (b, c) → ¬ E.F b → ¬ E'.F b := fun b c hr hn hF => (x.F' b hF).elim hn (fun h => h.elim (fun hb => by have := (ok.rb o b c hr).1; omega) (fun hb => hb o c hk hr))
  cases ob with
  | var ty cs =>
    obtain ⟨b, c, arr, hr, hh', hc, hf⟩ := h
    exact ⟨b, c, arr, x.r _ _ hk hr, (hb b c hr).trans hh', CV_extK ok x hh hc, hF b c hr hf⟩
  | row ty sz els g m =>
    obtain ⟨b, c, arr, hr, hh', h1, h2, h3, h4, h5, h6, h7⟩ := h
    exact ⟨b, c, arr, x.r _ _ hk hr, (hb b c hr).trans hh', h1, h2, h3, h4, rdLL_mono' (x.hH ok g) (x.H g) (hb b c hr) _ _ h5, fun hm => hF b c hr (h6 hm), fun hm => ⟨x.H false b (h7 hm).1, fun hg => x.H true b ((h7 hm).2 hg)⟩⟩
  | rown ty sz els g =>
    rcases h with ⟨h0, h1⟩ | ⟨h0, b, c, arr, hr, hh', h1, h2, h3, h4, h5, h6⟩
    · exact .inl ⟨by rw [x.n]; exact h0, h1⟩
    · exact .inr ⟨by rw [x.n]; exact h0, b, c, arr, x.r _ _ hk hr, (hb b c hr).trans hh', h1, h2, h3, h4, rdLL_mono' (x.hH ok g) (x.H g) (hb b c hr) _ _ h5, hF b c hr h6⟩
  | abs l y =>
    rcases h with ⟨h0, h1⟩ | ⟨h0, b, c, hr, h1, h2⟩
    · exact .inl ⟨by rw [x.n]; exact h0, h1⟩
    · exact .inr ⟨by rw [x.n]; exact h0, b, c, x.r _ _ hk hr, y.st _ _ _ _ _ _ h1 (fun k hk => (x.hT ok l k hk).1) (hb b c hr) (fun k hk => (x.hT ok l k hk).2), hF b c hr h2⟩
end
/-- One operation that writes the objects 'up', gives up the label 'kl', and writes nothing else that is there. -/
def AWK (P : Program) (o : Oper) (needs : List (Operand × T)) (nob : List (Nat × Ob)) (out : T) (nw up : List (Nat × Ob)) (kl : Option Nat) : Prop :=
  ∀ (cx : Cx) (E : Env) (a : Act) (w : World), EnvOK cx E w → (∀ x t, (x, t) ∈ needs → cvT E w t (a.eval x)) → (∀ l ob, (l, ob) ∈ nob → relOb E w l ob) →
    (∀ l ob, (l, ob) ∈ nw → E.r l = none ∧ rsv l = false) →
    o.wp P a w (fun a' w' => ∃ v E', a' = a.put o.dst v ∧ EnvOK cx E' w' ∧ ExtK up kl E w E' w' ∧ cvT E' w' out v ∧ (∀ l ob, (l, ob) ∈ nw → relOb E' w' l ob) ∧ (∀ l ob, (l, ob) ∈ up → relOb E' w' l ob) ∧
      (∀ l x, E'.r l = some x → E.r l = some x ∨ ∃ ob, (l, ob) ∈ nw)) (fun _ _ _ => False)
theorem awk_of_awx {P : Program} {o : Oper} {needs : List (Operand × T)} {nob : List (Nat × Ob)} {out : T} {nw up : List (Nat × Ob)} (h : AWX P o needs nob out nw up) : AWK P o needs nob out nw up none := by
  intro cx E a w ok hn hb hf
  refine Oper.wp_mono ?_ (h cx E a w ok hn hb hf)
  rintro a' w' ⟨v, E', h1, h2, h3, h4, h5, h6, h7⟩
  exact ⟨v, E', h1, h2, .of_extW h3, h4, h5, h6, h7⟩
/-! what is left of a state when labels are given up -/
def badK (d : Nat) (ob0 : List (Nat × Ob)) (k : Nat) : Bool := Nat.beq k d || match go ob0 k with
  | some x => x.hasO d
  | none => false
def dropF (d : Nat) (ob0 : List (Nat × Ob)) : List (Nat × Ob) → Option (List (Nat × Ob))
  | [] => some []
  | (k, x) :: r => match dropF d ob0 r, badK d ob0 k with
    | some r', true => some r'
    | some r', false => some ((k, x) :: r')
    | none, _ => none
def killA : List Nat → List (Nat × T) → List (Nat × Ob) → Option (List (Nat × T) × List (Nat × Ob))
  | [], sl, ob => some (sl, ob)
  | d :: ds, sl, ob => match killS d sl, dropF d ob ob with
    | some sl', some ob' => killA ds sl' ob'
    | _, _ => none
theorem dropF_go {d : Nat} {ob0 : List (Nat × Ob)} : ∀ {ob ob' : List (Nat × Ob)}, dropF d ob0 ob = some ob' → ∀ {l : Nat} {x : Ob}, go ob' l = some x → badK d ob0 l = false ∧ go ob l = some x
  | [], ob', h, l, x, hl => by simp [dropF] at h; subst h; cases hl
  | (k, y) :: r, ob', h, l, x, hl => by
    simp only [dropF] at h
    cases h1 : dropF d ob0 r with
    | none => simp [h1] at h
    | some r' =>
      cases h2 : badK d ob0 k with
      | true =>
        simp [h1, h2] at h; subst h
        have ih := dropF_go h1 hl
        refine ⟨ih.1, ?_⟩
        rw [go_other _ _ (fun e => by subst e; rw [h2] at ih; cases ih.1)]; exact ih.2
      | false =>
        simp [h1, h2] at h; subst h
        by_cases hk : k = l
        · subst hk; rw [go_same] at hl ⊢; cases hl; exact ⟨h2, rfl⟩
        · rw [go_other _ _ hk] at hl ⊢; exact dropF_go h1 hl
theorem killA_ok : ∀ {ds : List Nat} {sl sl' : List (Nat × T)} {ob ob' : List (Nat × Ob)}, killA ds sl ob = some (sl', ob') →
    (∀ k, gt sl' k = .any ∨ (gt sl' k = gt sl k ∧ ∀ d ∈ ds, (gt sl k).has d = false)) ∧ (∀ l x, go ob' l = some x → go ob l = some x ∧ ∀ d ∈ ds, l ≠ d ∧ x.hasO d = false)
  | [], sl, sl', ob, ob', h => by
    simp [killA] at h; obtain ⟨rfl, rfl⟩ := h
    exact ⟨fun k => .inr ⟨rfl, by simp⟩, fun l x h => ⟨h, by simp⟩⟩
  | d :: ds, sl, sl', ob, ob', h => by
    simp only [killA] at h
    cases h1 : killS d sl with
    | none => simp [h1] at h
    | some sl1 =>
      cases h2 : dropF d ob ob with
      | none => simp [h1, h2] at h
      | some ob1 =>
        simp only [h1, h2] at h
        obtain ⟨i1, i2⟩ := killA_ok h
        refine ⟨fun k => ?_, fun l x hl => ?_⟩
        · rcases i1 k with e | ⟨e1, e2⟩
          · exact .inl e
          · rcases killS_gt h1 k with e | ⟨e3, e4⟩
            · exact .inl (by rw [e1, e])
            · refine .inr ⟨by rw [e1, e3], fun d' hd' => ?_⟩
              rcases List.mem_cons.1 hd' with rfl | hd'
              · exact e4
              · rw [← e3]; exact e2 d' hd'
        · obtain ⟨e1, e2⟩ := i2 l x hl
          obtain ⟨e3, e4⟩ := dropF_go h2 e1
          refine ⟨e4, fun d' hd' => ?_⟩
          rcases List.mem_cons.1 hd' with rfl | hd'
          · simp only [badK, e4, Bool.or_eq_false_iff] at e3
            exact ⟨beqF e3.1, e3.2⟩
          · exact e2 d' hd'
end Go.AM
