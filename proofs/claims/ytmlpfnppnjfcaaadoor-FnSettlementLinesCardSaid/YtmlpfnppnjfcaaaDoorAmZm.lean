/-
  The abstract machine, part Zm: functions that write things handed to them (a variable and its rows), and that hand back rows which may be nil.
-/
import Derived.Test.YtmlpfnppnjfcaaaDoorAmZl
set_option linter.unusedVariables false
namespace Go.AM
open Go.RowKit
/-! a row takes another's label -/
def renC (p q : Nat) : C → Option C
  | .w l n => match Nat.beq l p, Nat.beq l q with
    | true, _ => some .any
    | false, true => some (.w p n)
    | false, false => some (.w l n)
  | .wn l n => match Nat.beq l p, Nat.beq l q with
    | true, _ => some .any
    | false, true => some (.wn p n)
    | false, false => some (.wn l n)
  | .s l a b c => match Nat.beq l p, Nat.beq l q with
    | true, _ => some .any
    | false, true => some (.s p a b c)
    | false, false => some (.s l a b c)
  | .p l k => match Nat.beq l p, Nat.beq l q with
    | true, _ => some .any
    | false, true => some (.p p k)
    | false, false => some (.p l k)
  | .e l a b c => match Nat.beq l p, Nat.beq l q with
    | true, _ => some .any
    | false, true => some (.e p a b c)
    | false, false => some (.e l a b c)
  | c => some c
def renO (p q : Nat) : List (Nat × Ob) → Option (List (Nat × Ob))
  | [] => some []
  | (k, .var t cs) :: r => match Nat.beq k p, Nat.beq k q, mapCs (renC p q) cs, renO p q r with
    | true, _, _, some r' => some r'
    | false, true, some cs', some r' => some ((p, .var t cs') :: r')
    | false, false, some cs', some r' => some ((k, .var t cs') :: r')
    | _, _, _, _ => none
  | (k, .row t sz els g m) :: r => match Nat.beq k p, Nat.beq k q, renO p q r with
    | true, _, some r' => some r'
    | false, true, some r' => some ((p, .row t sz els g m) :: r')
    | false, false, some r' => some ((k, .row t sz els g m) :: r')
    | _, _, _ => none
  | (k, .rown t sz els g) :: r => match Nat.beq k p, Nat.beq k q, renO p q r with
    | true, _, some r' => some r'
    | false, true, some r' => some ((p, .rown t sz els g) :: r')
    | false, false, some r' => some ((k, .rown t sz els g) :: r')
    | _, _, _ => none
def Env.ren (E : Env) (p q : Nat) : Env := { E with r := fun l => if l = p then E.r q else if l = q then none else E.r l, n := fun l => if l = p then E.n q else E.n l }
def renL (p q l : Nat) : Nat := if l = q then p else l
def rnOb (p q : Nat) : Ob → Ob → Prop
  | .var t cs, y => ∃ cs', mapCs (renC p q) cs = some cs' ∧ y = .var t cs'
  | x, y => y = x
theorem renO_go {p q : Nat} (hpq : p ≠ q) {l : Nat} {y : Ob} : ∀ {ob ob' : List (Nat × Ob)}, renO p q ob = some ob' → go ob' l = some y → ∃ l0 x, l0 ≠ p ∧ l = renL p q l0 ∧ go ob l0 = some x ∧ rnOb p q x y
  | [], ob', h, hy => by simp [renO] at h; subst h; cases hy
  | (k, x) :: r, ob', h, hy => by
    have key : ∀ (x' : Ob) (r' : List (Nat × Ob)), rnOb p q x x' → renO p q r = some r' → (Nat.beq k p = true ∧ ob' = r') ∨ (Nat.beq k p = false ∧ Nat.beq k q = true ∧ ob' = (p, x') :: r') ∨ (Nat.beq k p = false ∧ Nat.beq k q = false ∧ ob' = (k, x') :: r') →
        ∃ l0 x0, l0 ≠ p ∧ l = renL p q l0 ∧ go ((k, x) :: r) l0 = some x0 ∧ rnOb p q x0 y := by
      intro x' r' hx hr hc
      have hrec : go r' l = some y → ∃ l0 x0, l0 ≠ p ∧ l = renL p q l0 ∧ go r l0 = some x0 ∧ rnOb p q x0 y := fun h => renO_go hpq hr h
      rcases hc with ⟨h1, rfl⟩ | ⟨h1, h2, rfl⟩ | ⟨h1, h2, rfl⟩
      · obtain ⟨l0, x0, a1, a2, a3, a4⟩ := hrec hy
        have := Nat.eq_of_beq_eq_true h1
        subst this
        exact ⟨l0, x0, a1, a2, by rw [go_other _ _ (Ne.symm a1)]; exact a3, a4⟩
      · have := Nat.eq_of_beq_eq_true h2
        subst this
        by_cases e : p = l
        · subst e
          rw [go_same] at hy; cases hy
          exact ⟨k, x, beqF h1, by simp [renL], go_same _ _ _, hx⟩
        · rw [go_other _ _ e] at hy
          obtain ⟨l0, x0, a1, a2, a3, a4⟩ := hrec hy
          have hl0 : k ≠ l0 := fun e' => e (by rw [a2, ← e']; simp [renL])
          exact ⟨l0, x0, a1, a2, by rw [go_other _ _ hl0]; exact a3, a4⟩
      · have hkp := beqF h1
        have hkq := beqF h2
        by_cases e : k = l
        · subst e
          rw [go_same] at hy; cases hy
          exact ⟨k, x, hkp, by simp [renL, hkq], go_same _ _ _, hx⟩
        · rw [go_other _ _ e] at hy
          obtain ⟨l0, x0, a1, a2, a3, a4⟩ := hrec hy
          have hl0 : k ≠ l0 := fun e' => e (by rw [a2, ← e']; simp [renL, hkq])
          exact ⟨l0, x0, a1, a2, by rw [go_other _ _ hl0]; exact a3, a4⟩
    cases x with
    | var t cs =>
      simp only [renO] at h
      split at h
      · rename_i h1 h2
        cases h
        cases hm : mapCs (renC p q) cs with
        | some cs' => exact key (.var t cs') _ ⟨cs', hm, rfl⟩ h2 (.inl ⟨h1, rfl⟩)
        | none =>
          obtain ⟨l0, x0, a1, a2, a3, a4⟩ := renO_go hpq h2 hy
          have := Nat.eq_of_beq_eq_true h1
          subst this
          exact ⟨l0, x0, a1, a2, by rw [go_other _ _ (Ne.symm a1)]; exact a3, a4⟩
      · rename_i h1 h2 h3 h4; cases h; exact key _ _ ⟨_, h3, rfl⟩ h4 (.inr (.inl ⟨h1, h2, rfl⟩))
      · rename_i h1 h2 h3 h4; cases h; exact key _ _ ⟨_, h3, rfl⟩ h4 (.inr (.inr ⟨h1, h2, rfl⟩))
      · cases h
    | row t sz els g m =>
      simp only [renO] at h
      split at h
      · rename_i h1 h2; cases h; exact key _ _ (show rnOb p q (.row t sz els g m) (.row t sz els g m) from rfl) h2 (.inl ⟨h1, rfl⟩)
      · rename_i h1 h2 h3; cases h; exact key _ _ (show rnOb p q (.row t sz els g m) (.row t sz els g m) from rfl) h3 (.inr (.inl ⟨h1, h2, rfl⟩))
      · rename_i h1 h2 h3; cases h; exact key _ _ (show rnOb p q (.row t sz els g m) (.row t sz els g m) from rfl) h3 (.inr (.inr ⟨h1, h2, rfl⟩))
      · cases h
    | rown t sz els g =>
      simp only [renO] at h
      split at h
      · rename_i h1 h2; cases h; exact key _ _ (show rnOb p q (.rown t sz els g) (.rown t sz els g) from rfl) h2 (.inl ⟨h1, rfl⟩)
      · rename_i h1 h2 h3; cases h; exact key _ _ (show rnOb p q (.rown t sz els g) (.rown t sz els g) from rfl) h3 (.inr (.inl ⟨h1, h2, rfl⟩))
      · rename_i h1 h2 h3; cases h; exact key _ _ (show rnOb p q (.rown t sz els g) (.rown t sz els g) from rfl) h3 (.inr (.inr ⟨h1, h2, rfl⟩))
      · cases h
theorem weak_ren {N nx : Nat} {sl sl' : List (Nat × T)} {ob ob' : List (Nat × Ob)} (p q : Nat) (hp : rsp p = false) (hq : rsv q = false) (hpq : Nat.beq p q = false) (hpn : nlt p nx = true) (hs : mapS (renC p q) sl = some sl') (hb : renO p q ob = some ob') : Weak N ⟨sl, ob, nx⟩ ⟨sl', ob', nx⟩ := by
  have hne := beqF hpq
  intro cx E a w hR
  have hrp : (E.ren p q).r p = E.r q := by simp [Env.ren]
  have hrl : ∀ l, l ≠ p → l ≠ q → (E.ren p q).r l = E.r l := fun l h1 h2 => by simp [Env.ren, h1, h2]
  have hnp : (E.ren p q).n p = E.n q := by simp [Env.ren]
  have hnl : ∀ l, l ≠ p → (E.ren p q).n l = E.n l := fun l h1 => by simp [Env.ren, h1]
  have hr2 : ∀ l b c, (E.ren p q).r l = some (b, c) → (l = p ∧ E.r q = some (b, c)) ∨ (l ≠ p ∧ l ≠ q ∧ E.r l = some (b, c)) := by
    intro l b c h
    simp only [Env.ren] at h
    split at h
    · exact .inl ⟨by assumption, h⟩
    · split at h
      · cases h
      · exact .inr ⟨by assumption, by assumption, h⟩
  have hf : ∀ c c' u, renC p q c = some c' → cvC E w c u → cvC (E.ren p q) w c' u := by
    intro c c' u h hc
    cases c with
    | w l n =>
      simp only [renC] at h
      split at h
      · cases h; trivial
      · rename_i h1 h2; cases h; have := Nat.eq_of_beq_eq_true h2; subst this; obtain ⟨b, k, h3, h4⟩ := hc; exact ⟨b, k, hrp.trans h3, h4⟩
      · rename_i h1 h2; cases h; obtain ⟨b, k, h3, h4⟩ := hc; exact ⟨b, k, (hrl _ (beqF h1) (beqF h2)).trans h3, h4⟩
    | wn l n =>
      simp only [renC] at h
      split at h
      · cases h; trivial
      · rename_i h1 h2; cases h; have := Nat.eq_of_beq_eq_true h2; subst this
        rcases hc with ⟨h3, h4⟩ | ⟨h3, b, k, h5, h6⟩
        · exact .inl ⟨by rw [hnp]; exact h3, h4⟩
        · exact .inr ⟨by rw [hnp]; exact h3, b, k, hrp.trans h5, h6⟩
      · rename_i h1 h2; cases h
        rcases hc with ⟨h3, h4⟩ | ⟨h3, b, k, h5, h6⟩
        · exact .inl ⟨by rw [hnl _ (beqF h1)]; exact h3, h4⟩
        · exact .inr ⟨by rw [hnl _ (beqF h1)]; exact h3, b, k, (hrl _ (beqF h1) (beqF h2)).trans h5, h6⟩
    | s l a1 a2 a3 =>
      simp only [renC] at h
      split at h
      · cases h; trivial
      · rename_i h1 h2; cases h; have := Nat.eq_of_beq_eq_true h2; subst this; obtain ⟨A, c, b, k, h3, h4⟩ := hc; exact ⟨A, c, b, k, hrp.trans h3, h4⟩
      · rename_i h1 h2; cases h; obtain ⟨A, c, b, k, h3, h4⟩ := hc; exact ⟨A, c, b, k, (hrl _ (beqF h1) (beqF h2)).trans h3, h4⟩
    | p l n =>
      simp only [renC] at h
      split at h
      · cases h; trivial
      · rename_i h1 h2; cases h; have := Nat.eq_of_beq_eq_true h2; subst this; obtain ⟨b, k, h3, h4⟩ := hc; exact ⟨b, k, hrp.trans h3, h4⟩
      · rename_i h1 h2; cases h; obtain ⟨b, k, h3, h4⟩ := hc; exact ⟨b, k, (hrl _ (beqF h1) (beqF h2)).trans h3, h4⟩
    | e l a1 a2 a3 =>
      simp only [renC] at h
      split at h
      · cases h; trivial
      · rename_i h1 h2; cases h; have := Nat.eq_of_beq_eq_true h2; subst this; obtain ⟨b, k, h3, h4⟩ := hc; exact ⟨b, k, hrp.trans h3, h4⟩
      · rename_i h1 h2; cases h; obtain ⟨b, k, h3, h4⟩ := hc; exact ⟨b, k, (hrl _ (beqF h1) (beqF h2)).trans h3, h4⟩
    | _ => simp only [renC] at h; cases h; exact hc
  have ok := hR.ok
  have hback : ∀ l b c, (E.ren p q).r l = some (b, c) → ∃ l', E.r l' = some (b, c) := fun l b c h => (hr2 l b c h).elim (fun h => ⟨q, h.2⟩) (fun h => ⟨l, h.2.2⟩)
  refine ⟨E.ren p q, ⟨ok.fb, ok.gf, ok.gn, fun l b c h => ?_, fun l l' b c c' h h' => ?_, ok.os, ok.tape, ok.output, ok.size, ok.block, fun l x hv h => ?_, ok.ff, ok.gc, ⟨fun l b h => ?_, ok.sf.tt, fun b h => ?_, ok.sf.zs, ok.sf.ze⟩⟩, fun l x h => ?_, fun l y hl => ?_, fun k => mapS_ok hf hs (hR.sl k), hR.dfr, hR.size, hR.td⟩
  · rcases hr2 l b c h with ⟨_, h⟩ | ⟨_, _, h⟩
    · obtain ⟨k1, k2⟩ := ok.rb _ _ _ h
      exact ⟨k1, .inl (k2.resolve_right (fun k => by rw [hq] at k; cases k.2))⟩
    · exact ok.rb l b c h
  · rcases hr2 l b c h with ⟨rfl, k3⟩ | ⟨k1, k2, k3⟩ <;> rcases hr2 l' b c' h' with ⟨e, m3⟩ | ⟨m1, m2, m3⟩
    · exact e.symm
    · exact absurd (ok.inj _ _ _ _ _ m3 k3) m2
    · exact absurd (ok.inj _ _ _ _ _ k3 m3) k2
    · exact ok.inj _ _ _ _ _ k3 m3
  · obtain ⟨b, c⟩ := x
    rcases hr2 l b c h with ⟨rfl, _⟩ | ⟨_, _, h⟩
    · rw [hp] at hv; cases hv
    · exact ok.pin l _ hv h
  · obtain ⟨k1, k2, k3, k4⟩ := ok.sf.tb l b h
    exact ⟨k1, k2, fun l' c hl => (hback l' b c hl).elim fun l'' h'' => k3 l'' c h'', k4⟩
  · obtain ⟨k1, k2, k3, k4⟩ := ok.sf.zc b h
    exact ⟨k1, k2, fun l' c hl => (hback l' b c hl).elim fun l'' h'' => k3 l'' c h'', k4⟩
  · obtain ⟨b, c⟩ := x
    rcases hr2 l b c h with ⟨rfl, _⟩ | ⟨_, _, h⟩
    · exact blt_lt hpn
    · exact hR.dom l _ h
  · obtain ⟨l0, x, a1, a2, a3, a4⟩ := renO_go hne hb hl
    have hx := hR.obs l0 x a3
    have hlab : (E.ren p q).r l = E.r l0 ∧ (E.ren p q).n l = E.n l0 := by
      subst a2
      unfold renL
      split
      · rename_i e; subst e; exact ⟨hrp, hnp⟩
      · rename_i e; exact ⟨hrl _ a1 e, hnl _ a1⟩
    cases x with
    | var t cs =>
      obtain ⟨cs', h1, rfl⟩ := a4
      obtain ⟨b, c, arr, k1, k2, k3, k4⟩ := hx
      exact ⟨b, c, arr, hlab.1.trans k1, k2, mapCs_ok hf h1 k3, k4⟩
    | row t sz els g m =>
      have a4 : y = .row t sz els g m := a4
      subst a4
      obtain ⟨b, c, arr, k1, k2⟩ := hx
      exact ⟨b, c, arr, hlab.1.trans k1, k2⟩
    | rown t sz els g =>
      have a4 : y = .rown t sz els g := a4
      subst a4
      rcases hx with ⟨h1, h2⟩ | ⟨h1, b, c, arr, k1, k2⟩
      · exact .inl ⟨by rw [hlab.2]; exact h1, h2⟩
      · exact .inr ⟨by rw [hlab.2]; exact h1, b, c, arr, hlab.1.trans k1, k2⟩
/-! the contract -/
/-- What a call begins with: things under labels that are reserved. -/
structure VIn (E : Env) (w : World) : Prop where
  fb : ∀ b, E.F b → b < w.heap.size
  gf : ∀ b, E.G b → E.F b
  rb : ∀ o b c, E.r o = some (b, c) → b < w.heap.size ∧ rsv o = true ∧ ¬ E.F b
  inj : ∀ o o' b c c', E.r o = some (b, c) → E.r o' = some (b, c') → o = o'
  T : ∀ l b, ¬ E.T l b
  Z : ∀ b, ¬ E.Z b
/-- What a call leaves. -/
structure VOut (E : Env) (w : World) (E' : Env) (w' : World) : Prop where
  past : Past w w' (fun k => ∃ o c, E.r o = some (k, c))
  fb : ∀ b, E'.F b → b < w'.heap.size
  f0 : ∀ b, E'.F b → E.F b ∨ (w.heap.size ≤ b ∧ Plain w' b)
  F : ∀ b, E.F b → E'.F b
  G : ∀ b, E.G b → E'.G b
  gf : ∀ b, E'.G b → E'.F b
  g0 : ∀ b, E'.G b → w.heap.size ≤ b ∨ E.G b
  rb : ∀ o b c, E'.r o = some (b, c) → b < w'.heap.size ∧ (w.heap.size ≤ b ∨ ((∃ o' c', E.r o' = some (b, c')) ∧ rsv o = true))
  inj : ∀ o o' b c c', E'.r o = some (b, c) → E'.r o' = some (b, c') → o = o'
  pin : ∀ o x, rsp o = true → E'.r o = some x → E.r o = some x
/-- The contract of a function that writes the things 'xs', which become 'ys', and hands back 'out' with the new things 'nw'. -/
structure FnV (P : Program) (f : FuncId) (xs : List (Nat × Ob)) (args : List T) (ys : List (Nat × Ob)) (out : T) (nw : List (Nat × Ob)) : Prop where
  enters : ∀ (vs : Array Value) (w : World), (callFunc f vs).run P w = .ok (.enter f vs) w
  calls : ∀ (E : Env) (w : World) (vals : Array Value), VIn E w → TabsIn w → (∀ k ∈ seatBlk, ∀ o c, E.r o ≠ some (k, c)) → (∀ l x, go xs l = some x → relOb E w l x) → TV E w args vals.toList →
    Calls P f vals w fun e w' => ∃ v E', e = .returned v ∧ VOut E w E' w' ∧ cvT E' w' out v ∧ (∀ l y, go ys l = some y → relOb E' w' l y) ∧ (∀ l y, go nw l = some y → relOb E' w' l y)
/-- The value of results. -/
def outT : List V → T
  | [v] => .v v
  | vs => .tup vs
def LoA (ob : List (Nat × Ob)) : List (Nat × Ob) → Prop
  | [] => True
  | (l, x) :: r => go ob l = some x ∧ LoA ob r
theorem LoA_go {ob : List (Nat × Ob)} : ∀ {l : List (Nat × Ob)} {k : Nat} {x : Ob}, LoA ob l → go l k = some x → go ob k = some x
  | (j, y) :: r, k, x, h, hg => by
    by_cases e : j = k
    · subst e; rw [go_same] at hg; cases hg; exact h.1
    · rw [go_other _ _ e] at hg; exact LoA_go h.2 hg
/-- How such a function ends. -/
def PostV (N : Nat) (P : Program) (rs : List ResultVar) (ys : List (Nat × Ob)) (out : T) (nw : List (Nat × Ob)) : Exit → St → Prop
  | .ret, s | .normal, s => ∃ s' vs, Weak N s s' ∧ ResVs P s' rs vs ∧ outT vs = out ∧ LoA s'.ob ys ∧ LoA s'.ob nw
  | _, _ => False
instance {N : Nat} {P : Program} {rs : List ResultVar} {ys : List (Nat × Ob)} {out : T} {nw : List (Nat × Ob)} : Clo N (PostV N P rs ys out nw) := ⟨fun e s m hw h => by
  cases e <;> simp only [PostV] at h ⊢ <;> first | exact h | (obtain ⟨s', vs, h1, h2⟩ := h; exact ⟨s', vs, weak_trans hw h1, h2⟩)⟩
theorem clo_p {N : Nat} {P : Program} {rs : List ResultVar} {res : List RV} {e : Exit} {s m : St} (hw : Weak N s m) (h : Post N P rs res e m) : Post N P rs res e s := Clo.h (N := N) _ _ _ hw h
theorem clo_pw {N : Nat} {P : Program} {rs : List ResultVar} {res : List RV} {y : Ob} {e : Exit} {s m : St} (hw : Weak N s m) (h : PostW N P rs res y e m) : PostW N P rs res y e s := Clo.h (N := N) _ _ _ hw h
theorem clo_v {N : Nat} {P : Program} {rs : List ResultVar} {ys : List (Nat × Ob)} {out : T} {nw : List (Nat × Ob)} {e : Exit} {s m : St} (hw : Weak N s m) (h : PostV N P rs ys out nw e m) : PostV N P rs ys out nw e s := Clo.h (N := N) _ _ _ hw h
theorem fin_retV {N : Nat} {P : Program} {s : St} {rs : List ResultVar} {ys : List (Nat × Ob)} {out out' : T} {nw : List (Nat × Ob)} {vs : List V} (h : ResVs P s rs vs) (ho : outT vs = out') (e : out' = out) (hy : LoA s.ob ys) (hn : LoA s.ob nw) : PostV N P rs ys out nw .ret s := by
  subst e; exact ⟨s, vs, weak_refl s, h, ho, hy, hn⟩
theorem fin_endV {N : Nat} {P : Program} {s : St} {rs : List ResultVar} {ys : List (Nat × Ob)} {out out' : T} {nw : List (Nat × Ob)} {vs : List V} (h : ResVs P s rs vs) (ho : outT vs = out') (e : out' = out) (hy : LoA s.ob ys) (hn : LoA s.ob nw) : PostV N P rs ys out nw .normal s := by
  subst e; exact ⟨s, vs, weak_refl s, h, ho, hy, hn⟩
theorem rsv_lt {o : Nat} (h : rsv o = true) : o < 210 := by
  simp only [rsv, nlt, Bool.and_eq_true, Nat.ble_eq] at h; omega
theorem fn_inV {P : Program} {f : FuncId} {fn : Func} {c : Code} {N : Nat} {xs ys : List (Nat × Ob)} {args : List T} {rs : List ResultVar} {out : T} {nw : List (Nat × Ob)} {sl0 : List (Nat × T)} (hf : P.funcs[f]? = some fn) (hb : fn.body = some c) (hnm : (fn.name == "runtime.NumGoroutine") = false) (hN : fn.ntmps = N) (hrs : fn.results.toList = rs)
    (ha : Nat.ble args.length N = true) (hs : argW 0 args = sl0) (h : AWC P N c ⟨sl0, xs, 210⟩ (PostV N P rs ys out nw)) : FnV P f xs args ys out nw := by
  subst hs
  refine ⟨fun vs w => by simp [callFunc, hf, hb]; simpa using hnm, fun E w vals hI hT hTb hx hA => ?_⟩
  subst hrs
  refine calls_of_wp hf hb ?_
  obtain ⟨h1, h2⟩ := argW_ok 0 hA
  have hle : args.length ≤ N := Nat.le_of_ble_eq_true ha
  have hsz : vals.size = args.length := by simpa using h1
  have hR : Rel N ⟨w, fun k => ∃ o c, E.r o = some (k, c), E.r, E.F, fun _ => False, ⟨hT, fun k hk ⟨o, c, h⟩ => hTb k hk o c h⟩, E.G⟩ E ⟨argW 0 args, xs, 210⟩ { tmps := vals ++ Array.replicate (fn.ntmps - vals.size) undef, defers := [] } w := by
    refine ⟨⟨hI.fb, hI.gf, fun _ h => .inr h, fun o k k' h => ?_, hI.inj, rfl, rfl, rfl, Nat.le_refl _, fun _ _ _ => rfl, fun _ _ _ h => h, fun _ h => .inl h, fun b h h' => absurd (hI.fb b h) (by have : w.heap.size ≤ b := h'; omega), ⟨fun l b h => absurd h (hI.T l b), fun l _ b h => absurd h (hI.T l b), fun _ h => h.elim, fun _ h => h.elim, fun b h => absurd h (hI.Z b)⟩⟩, fun o p h => ?_, fun o ob h => hx o ob h, fun k => ?_, rfl, by simp; omega, fun l b h => absurd h (hI.T l b)⟩
    · obtain ⟨k1, k2, _⟩ := hI.rb o k k' h; exact ⟨k1, .inr ⟨⟨o, k', h⟩, k2⟩⟩
    · exact rsv_lt (hI.rb o p.1 p.2 h).2.1
    · by_cases hk : k < args.length
      · obtain ⟨u, h3, h4⟩ := (h2 k).1 ⟨Nat.zero_le _, by omega⟩
        have : (vals ++ Array.replicate (fn.ntmps - vals.size) undef).getD k undef = u := by
          have h5 : vals[k]? = some u := by simpa using h3
          have h6 : (vals ++ Array.replicate (fn.ntmps - vals.size) undef)[k]? = some u := by rw [Array.getElem?_append_left (by omega)]; exact h5
          simp [h6]
        rw [this]; exact h4
      · have := (h2 k).2 (by omega)
        show cvT _ w (gt (argW 0 args) k) _
        rw [this]; trivial
  refine wp_mono (h _ _ _ w hR) ?_
  rintro e a' w' ⟨E', s', hR', hq⟩
  have fin : (∃ s'' vs, Weak N s' s'' ∧ ResVs P s'' fn.results.toList vs ∧ outT vs = out ∧ LoA s''.ob ys ∧ LoA s''.ob nw) →
      a'.defers = [] ∧ ∃ v, (results fn a'.tmps).run P w' = .ok v w' ∧ ∃ v' E', Ending.returned v = .returned v' ∧ VOut E w E' w' ∧ cvT E' w' out v' ∧ (∀ l y, go ys l = some y → relOb E' w' l y) ∧ (∀ l y, go nw l = some y → relOb E' w' l y) := by
    rintro ⟨s'', vs, hw, hres, ho, hys, hnw⟩
    obtain ⟨E'', hR''⟩ := hw _ _ _ _ hR'
    have ok := hR''.ok
    obtain ⟨us, k1, k2⟩ := ResVs_ok hR'' hres
    have hm : (fn.results.mapM (resOne a'.tmps)).run P w' = .ok us.toArray w' := by
      rw [← Array.toArray_toList (xs := fn.results), List.mapM_toArray]
      simp only [Sem.run_map, k1]
      rfl
    have hrr : results fn a'.tmps = (fn.results.mapM (resOne a'.tmps)) >>= fun vs => pure (if h : vs.size = 1 then vs[0] else .tuple vs) := rfl
    have hv : ∃ v, (results fn a'.tmps).run P w' = .ok v w' ∧ cvT E'' w' out v := by
      subst ho
      match vs, us, k2 with
      | [], [], _ => exact ⟨.tuple #[], by rw [hrr]; simp [hm], #[], rfl, trivial⟩
      | [v], [u], k2 => exact ⟨u, by rw [hrr]; simp [hm], k2.1⟩
      | v1 :: v2 :: vs, u1 :: u2 :: us, k2 => exact ⟨.tuple (u1 :: u2 :: us).toArray, by rw [hrr]; simp [hm], _, rfl, k2⟩
    obtain ⟨v, q1, q2⟩ := hv
    have hk : Keeps E'' w' { E'' with F := fun b => E''.F b ∨ E.F b, G := fun b => E''.G b ∨ E.G b } w' := ⟨fun _ _ h => h, fun g b h => by cases g <;> exact .inl h, fun _ _ _ => rfl, fun _ _ h => ⟨h, rfl⟩, fun _ h => ⟨h, .refl _ _⟩, rfl⟩
    have hob : ∀ l y, go s''.ob l = some y → relOb { E'' with F := fun b => E''.F b ∨ E.F b, G := fun b => E''.G b ∨ E.G b } w' l y := fun l y h =>
      relOb_keeps hk (fun _ _ _ => rfl) (fun b c hr hn hF => hF.elim hn (fun hF => by
        rcases (ok.rb l b c hr).2 with k | ⟨⟨o, c', k⟩, _⟩
        · have := hI.fb b hF; simp only at k; omega
        · exact (hI.rb o b c' k).2.2 hF)) (hR''.obs l y h)
    refine ⟨hR''.dfr, v, q1, v, { E'' with F := fun b => E''.F b ∨ E.F b, G := fun b => E''.G b ∨ E.G b }, rfl, ⟨⟨ok.os, ok.tape, ok.output, ok.size, ok.block⟩, fun b h => h.elim (ok.fb b) (fun h => by have := hI.fb b h; have := ok.size; simp only at this; omega), fun b h => h.elim (fun h => (ok.ff b h).elim .inl (fun k => .inr ⟨k, ok.gc b h k⟩)) .inl, fun b h => .inr h, fun b h => .inr h, fun b h => h.imp (ok.gf b) (hI.gf b), fun b h => h.elim (ok.gn b) .inr, fun o b c h => ?_, ok.inj, fun o x hv h => ?_⟩, ?_, ?_, ?_⟩
    · obtain ⟨m1, m2⟩ := ok.rb o b c h
      exact ⟨m1, m2⟩
    · exact ok.pin o x hv h
    · exact cvT_keeps hk q2
    · exact fun l y h => hob l y (LoA_go hys h)
    · exact fun l y h => hob l y (LoA_go hnw h)
  cases e with
  | normal => exact fin hq
  | ret => exact fin hq
  | _ => exact hq.elim
end Go.AM
