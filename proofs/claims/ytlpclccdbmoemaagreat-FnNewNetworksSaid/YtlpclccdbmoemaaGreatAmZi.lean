/-
  The abstract machine, part Zi: labels exchanged; regions forgotten in variables.
-/
import Derived.Test.YtlpclccdbmoemaaGreatAmZh
set_option linter.unusedVariables false
namespace Go.AM
open Go.RowKit
/-- The labels p and q exchanged. -/
def sw (p q l : Nat) : Nat := bif Nat.beq l p then q else bif Nat.beq l q then p else l
theorem beq_eq (a b : Nat) : Nat.beq a b = decide (a = b) := by
  by_cases h : a = b
  · subst h; simp
  · rw [beq_ne h]; simp [h]
theorem sw_sw (p q l : Nat) : sw p q (sw p q l) = l := by
  unfold sw
  simp only [beq_eq]
  by_cases h1 : l = p
  · subst h1
    by_cases h2 : q = l
    · simp [h2]
    · simp [h2]
  · by_cases h2 : l = q
    · subst h2; simp [h1]
    · simp [h1, h2]
theorem sw_inj {p q a b : Nat} (h : sw p q a = sw p q b) : a = b := by rw [← sw_sw p q a, h, sw_sw]
theorem sw_rsv {p q : Nat} (hp : rsv p = false) (hq : rsv q = false) (l : Nat) : (rsv l = true → sw p q l = l) ∧ (rsv (sw p q l) = true → sw p q l = l) := by
  unfold sw
  simp only [beq_eq]
  by_cases h1 : l = p
  · subst h1; simp [hp, hq]
  · by_cases h2 : l = q
    · subst h2; simp [h1, hp, hq]
    · simp [h1, h2]
theorem sw_lt {p q n : Nat} (hp : p < n) (hq : q < n) {l : Nat} (h : sw p q l < n) : l < n := by
  rw [← sw_sw p q l]
  generalize sw p q l = m at h
  unfold sw
  simp only [beq_eq]
  by_cases h1 : m = p
  · subst h1; simp [hq]
  · by_cases h2 : m = q
    · subst h2; simp [h1, hp]
    · simp [h1, h2, h]
def swC (p q : Nat) : C → C
  | .w o n => .w (sw p q o) n
  | .wn o n => .wn (sw p q o) n
  | .s o a b c => .s (sw p q o) a b c
  | .p o k => .p (sw p q o) k
  | .e o a b c => .e (sw p q o) a b c
  | c => c
def swCs (p q : Nat) : List C → List C
  | [] => []
  | c :: cs => swC p q c :: swCs p q cs
def swV (p q : Nat) : V → V
  | .c c => .c (swC p q c)
  | .agg cs => .agg (swCs p q cs)
def swVs (p q : Nat) : List V → List V
  | [] => []
  | c :: cs => swV p q c :: swVs p q cs
def swT (p q : Nat) : T → T
  | .v v => .v (swV p q v)
  | .tup vs => .tup (swVs p q vs)
  | .any => .any
def swOb (p q : Nat) : Ob → Ob
  | .var t cs => .var t (swCs p q cs)
  | o => o
def swS (p q : Nat) : List (Nat × T) → List (Nat × T)
  | [] => []
  | (k, t) :: r => (k, swT p q t) :: swS p q r
def swO (p q : Nat) : List (Nat × Ob) → List (Nat × Ob)
  | [] => []
  | (k, t) :: r => (sw p q k, swOb p q t) :: swO p q r
def Env.sw (E : Env) (p q : Nat) : Env := { E with r := fun l => E.r (AM.sw p q l), n := fun l => E.n (AM.sw p q l) }
theorem swC_ok {E : Env} {w : World} {p q : Nat} {c : C} {u : Value} (h : cvC E w c u) : cvC (E.sw p q) w (swC p q c) u := by
  have e : ∀ o, (E.sw p q).r (sw p q o) = E.r o := fun o => by simp [Env.sw, sw_sw]
  cases c with
  | w o n => obtain ⟨b, c, h1, h2⟩ := h; exact ⟨b, c, (e o).trans h1, h2⟩
  | wn o n =>
    have e2 : (E.sw p q).n (sw p q o) = E.n o := by simp [Env.sw, sw_sw]
    rcases h with ⟨h1, h2⟩ | ⟨h0, b, c, h1, h2⟩
    · exact .inl ⟨by rw [e2]; exact h1, h2⟩
    · exact .inr ⟨by rw [e2]; exact h0, b, c, (e o).trans h1, h2⟩
  | s o a b c => obtain ⟨A, c', b', k, h1, h2⟩ := h; exact ⟨A, c', b', k, (e o).trans h1, h2⟩
  | p o k => obtain ⟨b, c, h1, h2⟩ := h; exact ⟨b, c, (e o).trans h1, h2⟩
  | e o a b c => obtain ⟨b', c', h1, h2⟩ := h; exact ⟨b', c', (e o).trans h1, h2⟩
  | _ => exact h
theorem swCs_ok {E : Env} {w : World} {p q : Nat} : ∀ {cs : List C} {us : List Value}, CV E w cs us → CV (E.sw p q) w (swCs p q cs) us
  | [], [], h => h
  | [], _ :: _, h => h.elim
  | _ :: _, [], h => h.elim
  | _ :: _, _ :: _, h => ⟨swC_ok h.1, swCs_ok h.2⟩
theorem swV_ok {E : Env} {w : World} {p q : Nat} {c : V} {u : Value} (h : cvV E w c u) : cvV (E.sw p q) w (swV p q c) u := by
  cases c with
  | c c => exact swC_ok h
  | agg cs => obtain ⟨arr, h1, h2⟩ := h; exact ⟨arr, h1, swCs_ok h2⟩
theorem swVs_ok {E : Env} {w : World} {p q : Nat} : ∀ {cs : List V} {us : List Value}, VV E w cs us → VV (E.sw p q) w (swVs p q cs) us
  | [], [], h => h
  | [], _ :: _, h => h.elim
  | _ :: _, [], h => h.elim
  | _ :: _, _ :: _, h => ⟨swV_ok h.1, swVs_ok h.2⟩
theorem swT_ok {E : Env} {w : World} {p q : Nat} {t : T} {u : Value} (h : cvT E w t u) : cvT (E.sw p q) w (swT p q t) u := by
  cases t with
  | v v => exact swV_ok h
  | tup vs => obtain ⟨arr, h1, h2⟩ := h; exact ⟨arr, h1, swVs_ok h2⟩
  | any => trivial
theorem swOb_ok {E : Env} {w : World} {p q o : Nat} {ob : Ob} (h : relOb E w (sw p q o) ob) : relOb (E.sw p q) w o (swOb p q ob) := by
  cases ob with
  | var t cs => obtain ⟨b, c, arr, h1, h2, h3, h4⟩ := h; exact ⟨b, c, arr, h1, h2, swCs_ok h3, h4⟩
  | row t sz els g m => exact h
  | rown t sz els g => exact h
  | abs l y => exact h
theorem gt_swS {p q : Nat} : ∀ (sl : List (Nat × T)) (k : Nat), gt (swS p q sl) k = swT p q (gt sl k)
  | [], k => rfl
  | (j, t) :: r, k => by
    simp only [swS, gt]
    cases Nat.beq j k
    · exact gt_swS r k
    · rfl
theorem go_swO {p q : Nat} : ∀ (ob : List (Nat × Ob)) (o : Nat), go (swO p q ob) o = (go ob (sw p q o)).map (swOb p q)
  | [], o => rfl
  | (j, t) :: r, o => by
    simp only [swO, go, beq_eq]
    by_cases h : j = sw p q o
    · subst h; simp [sw_sw]
    · have h2 : sw p q j ≠ o := fun e => h (by rw [← e, sw_sw])
      simp only [h, h2, decide_false, cond_false]
      exact go_swO r o
theorem weak_swp {N p q nx : Nat} {sl : List (Nat × T)} {ob : List (Nat × Ob)} (hp : rsv p = false) (hq : rsv q = false) (hpn : nlt p nx = true) (hqn : nlt q nx = true) : Weak N ⟨sl, ob, nx⟩ ⟨swS p q sl, swO p q ob, nx⟩ := by
  intro cx E a w hR
  have ok := hR.ok
  refine ⟨E.sw p q, ⟨ok.fb, ok.gf, ok.gn, fun o b c h => ?_, fun o o' b c c' h h' => sw_inj (ok.inj _ _ _ _ _ h h'), ok.os, ok.tape, ok.output, ok.size, ok.block, fun o x hr h => ?_, ok.ff, ok.gc, ?_⟩, fun o x h => sw_lt (blt_lt hpn) (blt_lt hqn) (hR.dom _ x h), fun o ob' h => ?_, fun k => ?_, hR.dfr, hR.size, hR.td⟩
  · obtain ⟨h1, h2⟩ := ok.rb _ b c h
    refine ⟨h1, h2.imp id fun h3 => ⟨h3.1, ?_⟩⟩
    have := (sw_rsv hp hq o).2 h3.2
    rw [this] at h3; exact h3.2
  · have h' : E.r (sw p q o) = some x := h
    rw [(sw_rsv hp hq o).1 (rsp_rsv hr)] at h'
    exact ok.pin o x hr h'
  · have sf := ok.sf
    exact ⟨fun l b h => ⟨(sf.tb l b h).1, (sf.tb l b h).2.1, fun o c => (sf.tb l b h).2.2.1 _ c, (sf.tb l b h).2.2.2⟩, sf.tt, fun b h => ⟨(sf.zc b h).1, (sf.zc b h).2.1, fun o c => (sf.zc b h).2.2.1 _ c, (sf.zc b h).2.2.2⟩, sf.zs, sf.ze⟩
  · rw [go_swO] at h
    cases hg : go ob (sw p q o) with
    | none => rw [hg] at h; cases h
    | some x => rw [hg] at h; cases h; exact swOb_ok (hR.obs _ x hg)
  · rw [gt_swS]; exact swT_ok (hR.sl k)
/-! the length of a row, said anew everywhere -/
def wnC (o n : Nat) : C → C
  | .w k m => bif Nat.beq k o then .w k n else .w k m
  | .wn k m => bif Nat.beq k o then .wn k n else .wn k m
  | c => c
def wnEC (o n : Nat) : C → List (Nat × Nat)
  | .w k m => bif Nat.beq k o then [(m, n)] else []
  | .wn k m => bif Nat.beq k o then [(m, n)] else []
  | _ => []
def wnCs (o n : Nat) : List C → List C
  | [] => []
  | c :: cs => wnC o n c :: wnCs o n cs
def wnECs (o n : Nat) : List C → List (Nat × Nat)
  | [] => []
  | c :: cs => wnEC o n c ++ wnECs o n cs
def wnT (o n : Nat) : T → T
  | .v (.c c) => .v (.c (wnC o n c))
  | .v (.agg cs) => .v (.agg (wnCs o n cs))
  | t => t
def wnET (o n : Nat) : T → List (Nat × Nat)
  | .v (.c c) => wnEC o n c
  | .v (.agg cs) => wnECs o n cs
  | _ => []
def wnS (o n : Nat) : List (Nat × T) → List (Nat × T)
  | [] => []
  | (k, t) :: r => (k, wnT o n t) :: wnS o n r
def wnES (o n : Nat) : List (Nat × T) → List (Nat × Nat)
  | [] => []
  | (_, t) :: r => wnET o n t ++ wnES o n r
def wnO (o n : Nat) : List (Nat × Ob) → List (Nat × Ob)
  | [] => []
  | (k, .var t cs) :: r => (k, .var t (wnCs o n cs)) :: wnO o n r
  | p :: r => p :: wnO o n r
def wnEO (o n : Nat) : List (Nat × Ob) → List (Nat × Nat)
  | [] => []
  | (_, .var _ cs) :: r => wnECs o n cs ++ wnEO o n r
  | _ :: r => wnEO o n r
theorem wnC_ok {E : Env} {w : World} {o n : Nat} {c : C} {u : Value} (he : Eqs (wnEC o n c)) (h : cvC E w c u) : cvC E w (wnC o n c) u := by
  cases c with
  | w k m =>
    simp only [wnC, wnEC] at he ⊢
    cases hk : Nat.beq k o with
    | false => exact h
    | true => rw [hk] at he; have : m = n := he.1; subst this; exact h
  | wn k m =>
    simp only [wnC, wnEC] at he ⊢
    cases hk : Nat.beq k o with
    | false => exact h
    | true => rw [hk] at he; have : m = n := he.1; subst this; exact h
  | _ => exact h
theorem wnCs_ok {E : Env} {w : World} {o n : Nat} : ∀ {cs : List C} {us : List Value}, Eqs (wnECs o n cs) → CV E w cs us → CV E w (wnCs o n cs) us
  | [], [], _, h => h
  | [], _ :: _, _, h => h.elim
  | _ :: _, [], _, h => h.elim
  | _ :: _, _ :: _, he, h => by obtain ⟨h1, h2⟩ := Eqs_append he; exact ⟨wnC_ok h1 h.1, wnCs_ok h2 h.2⟩
theorem wnT_ok {E : Env} {w : World} {o n : Nat} {t : T} {u : Value} (he : Eqs (wnET o n t)) (h : cvT E w t u) : cvT E w (wnT o n t) u := by
  cases t with
  | v v =>
    cases v with
    | c c => exact wnC_ok he h
    | agg cs => obtain ⟨arr, h1, h2⟩ := h; exact ⟨arr, h1, wnCs_ok he h2⟩
  | _ => exact h
theorem weak_wnA {N o n nx : Nat} {sl : List (Nat × T)} {ob : List (Nat × Ob)} (he : Eqs (wnES o n sl)) (he2 : Eqs (wnEO o n ob)) : Weak N ⟨sl, ob, nx⟩ ⟨wnS o n sl, wnO o n ob, nx⟩ := by
  intro cx E a w hR
  refine ⟨E, hR.ok, hR.dom, fun p x h => ?_, fun k => ?_, hR.dfr, hR.size, hR.td⟩
  · have key : ∀ (ob : List (Nat × Ob)) (x : Ob), Eqs (wnEO o n ob) → go (wnO o n ob) p = some x → ∃ y, go ob p = some y ∧ (relOb E w p y → relOb E w p x) := by
      intro ob
      induction ob with
      | nil => intro x _ h; cases h
      | cons q r ih =>
        intro x he h
        obtain ⟨k, v⟩ := q
        cases v with
        | var t cs =>
          obtain ⟨h1, h2⟩ := Eqs_append (show Eqs (wnECs o n cs ++ wnEO o n r) from he)
          simp only [wnO, go] at h ⊢
          cases hk : Nat.beq k p with
          | false => rw [hk] at h; exact ih x h2 h
          | true =>
            rw [hk] at h
            cases h
            exact ⟨_, rfl, fun ⟨b, c, arr, k1, k2, k3, k4⟩ => ⟨b, c, arr, k1, k2, wnCs_ok h1 k3, k4⟩⟩
        | row t sz els g m =>
          simp only [wnO, go] at h ⊢
          cases hk : Nat.beq k p with
          | false => rw [hk] at h; exact ih x he h
          | true => rw [hk] at h; cases h; exact ⟨_, rfl, id⟩
        | rown t sz els g =>
          simp only [wnO, go] at h ⊢
          cases hk : Nat.beq k p with
          | false => rw [hk] at h; exact ih x he h
          | true => rw [hk] at h; cases h; exact ⟨_, rfl, id⟩
        | abs l y =>
          simp only [wnO, go] at h ⊢
          cases hk : Nat.beq k p with
          | false => rw [hk] at h; exact ih x he h
          | true => rw [hk] at h; cases h; exact ⟨_, rfl, id⟩
    obtain ⟨y, h1, h2⟩ := key ob x he2 h
    exact h2 (hR.obs p y h1)
  · have key : ∀ (sl : List (Nat × T)), Eqs (wnES o n sl) → (cvT E w (gt sl k) (a.tmps.getD k undef) → cvT E w (gt (wnS o n sl) k) (a.tmps.getD k undef)) := by
      intro sl
      induction sl with
      | nil => intro _ h; exact h
      | cons q r ih =>
        intro he h
        obtain ⟨j, t⟩ := q
        obtain ⟨h1, h2⟩ := Eqs_append (show Eqs (wnET o n t ++ wnES o n r) from he)
        simp only [wnS, gt] at h ⊢
        cases hj : Nat.beq j k with
        | false => rw [hj] at h; exact ih h2 h
        | true => rw [hj] at h; exact wnT_ok h1 h
    exact key sl he (hR.sl k)
theorem clo_w {N : Nat} {AQ : Exit → St → Prop} {e : Exit} {s m : St} [c : Clo N AQ] (hw : Weak N s m) (h : AQ e m) : AQ e s := c.h _ _ _ hw h
/-! no slice, as data -/
def wnSO (o n : Nat) : List (Nat × T) → Option (List (Nat × T))
  | [] => some []
  | (k, .v (.c c)) :: r => match wnSO o n r with
    | some r' => match c with
      | .w q m => bif Nat.beq q o then some ((k, .v (.c (.w q n))) :: r') else some ((k, .v (.c (.w q m))) :: r')
      | .wn q m => bif Nat.beq q o then some ((k, .v (.c (.wn q n))) :: r') else some ((k, .v (.c (.wn q m))) :: r')
      | c => some ((k, .v (.c c)) :: r')
    | none => none
  | (k, t) :: r => match wnSO o n r with
    | some r' => some ((k, wnT o n t) :: r')
    | none => none
theorem wnSO_eq {o n : Nat} : ∀ {sl sl' : List (Nat × T)}, wnSO o n sl = some sl' → sl' = wnS o n sl
  | [], sl', h => by simp [wnSO] at h; subst h; rfl
  | (k, t) :: r, sl', h => by
    cases hr : wnSO o n r with
    | none =>
      exfalso
      cases t with
      | v v => cases v <;> simp [wnSO, hr] at h
      | tup vs => simp [wnSO, hr] at h
      | any => simp [wnSO, hr] at h
    | some r' =>
      have := wnSO_eq hr
      subst this
      cases t with
      | v v =>
        cases v with
        | c c =>
          cases c with
          | w q m =>
            simp only [wnSO, hr] at h
            simp only [wnS, wnT, wnC]
            cases hq : Nat.beq q o <;> rw [hq] at h <;> cases h <;> rfl
          | wn q m =>
            simp only [wnSO, hr] at h
            simp only [wnS, wnT, wnC]
            cases hq : Nat.beq q o <;> rw [hq] at h <;> cases h <;> rfl
          | _ => simp only [wnSO, hr] at h; cases h; rfl
        | agg cs => simp only [wnSO, hr] at h; cases h; rfl
      | tup vs => simp only [wnSO, hr] at h; cases h; rfl
      | any => simp only [wnSO, hr] at h; cases h; rfl
def wnOO (o n : Nat) : List (Nat × Ob) → Option (List (Nat × Ob))
  | [] => some []
  | (k, .var t cs) :: r => match wnOO o n r with
    | some r' => some ((k, .var t (wnCs o n cs)) :: r')
    | none => none
  | p :: r => match wnOO o n r with
    | some r' => some (p :: r')
    | none => none
theorem wnOO_eq {o n : Nat} : ∀ {sl sl' : List (Nat × Ob)}, wnOO o n sl = some sl' → sl' = wnO o n sl
  | [], sl', h => by simp [wnOO] at h; subst h; rfl
  | (k, t) :: r, sl', h => by
    cases hr : wnOO o n r with
    | none => exfalso; cases t <;> simp [wnOO, hr] at h
    | some r' =>
      have := wnOO_eq hr
      subst this
      cases t <;> simp only [wnOO, hr] at h <;> cases h <;> rfl
theorem weak_wnB {N o n nx : Nat} {sl sl' : List (Nat × T)} {ob ob' : List (Nat × Ob)} (hs : wnSO o n sl = some sl') (ho : wnOO o n ob = some ob') (he : Eqs (wnES o n sl)) (he2 : Eqs (wnEO o n ob)) : Weak N ⟨sl, ob, nx⟩ ⟨sl', ob', nx⟩ := by
  rw [wnSO_eq hs, wnOO_eq ho]; exact weak_wnA he he2
end Go.AM
