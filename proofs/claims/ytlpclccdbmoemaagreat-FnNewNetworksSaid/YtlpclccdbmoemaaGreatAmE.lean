/-
  The abstract machine, part E: new objects, stores, rows that grow.
-/
import Derived.Test.YtlpclccdbmoemaaGreatAmD
import Derived.Great.FillDense
set_option linter.unusedVariables false
namespace Go.AM
open Go.RowKit

/-! lists, so that what comes out is written out -/
def tkO {α : Type} : Nat → List α → Option (List α)
  | 0, _ => some []
  | n + 1, x :: xs => match tkO n xs with | some r => some (x :: r) | none => none
  | _ + 1, [] => none
def drO {α : Type} : Nat → List α → Option (List α)
  | 0, xs => some xs
  | n + 1, _ :: xs => drO n xs
  | _ + 1, [] => none
def partO {α : Type} (k n : Nat) (xs : List α) : Option (List α) := match drO k xs with | some r => tkO n r | none => none
def splO {α : Type} : Nat → List α → List α → Option (List α)
  | 0, [], cs => some cs
  | 0, n :: ns, _ :: cs => match splO 0 ns cs with | some r => some (n :: r) | none => none
  | 0, _ :: _, [] => none
  | k + 1, ns, c :: cs => match splO k ns cs with | some r => some (c :: r) | none => none
  | _ + 1, _, [] => none
theorem tkO_eq {α : Type} : ∀ {n : Nat} {xs r : List α}, tkO n xs = some r → r = xs.take n ∧ n ≤ xs.length
  | 0, xs, r, h => by simp [tkO] at h; subst h; simp
  | n + 1, [], r, h => by simp [tkO] at h
  | n + 1, x :: xs, r, h => by
    simp only [tkO] at h
    cases h1 : tkO n xs with
    | none => simp [h1] at h
    | some s => simp [h1] at h; obtain ⟨h2, h3⟩ := tkO_eq h1; subst h; subst h2; simp [h3]
theorem drO_eq {α : Type} : ∀ {n : Nat} {xs r : List α}, drO n xs = some r → r = xs.drop n ∧ n ≤ xs.length
  | 0, xs, r, h => by simp [drO] at h; subst h; simp
  | n + 1, [], r, h => by simp [drO] at h
  | n + 1, x :: xs, r, h => by simp only [drO] at h; obtain ⟨h2, h3⟩ := drO_eq h; subst h2; simp [h3]
theorem partO_eq {α : Type} {k n : Nat} {xs r : List α} (h : partO k n xs = some r) : r = (xs.drop k).take n ∧ k + n ≤ xs.length := by
  unfold partO at h
  cases h1 : drO k xs with
  | none => simp [h1] at h
  | some s =>
    simp [h1] at h
    obtain ⟨h2, h3⟩ := drO_eq h1
    obtain ⟨h4, h5⟩ := tkO_eq h
    subst h2
    simp at h5
    exact ⟨h4, by omega⟩
theorem splO_eq {α : Type} : ∀ {k : Nat} {ns cs r : List α}, splO k ns cs = some r → r = cs.take k ++ ns ++ cs.drop (k + ns.length) ∧ k + ns.length ≤ cs.length
  | 0, [], cs, r, h => by simp [splO] at h; subst h; simp
  | 0, n :: ns, [], r, h => by simp [splO] at h
  | 0, n :: ns, c :: cs, r, h => by
    simp only [splO] at h
    cases h1 : splO 0 ns cs with
    | none => simp [h1] at h
    | some s => simp [h1] at h; obtain ⟨h2, h3⟩ := splO_eq h1; subst h; subst h2; simp at h3; simp [h3]
  | k + 1, ns, [], r, h => by cases ns <;> simp [splO] at h
  | k + 1, ns, c :: cs, r, h => by
    have h' : (match splO k ns cs with | some r => some (c :: r) | none => none) = some r := by cases ns <;> simpa [splO] using h
    cases h1 : splO k ns cs with
    | none => simp [h1] at h'
    | some s =>
      simp [h1] at h'; obtain ⟨h2, h3⟩ := splO_eq h1; subst h'; subst h2
      refine ⟨by simp [Nat.add_right_comm], by simp; omega⟩
theorem splO_get {α : Type} {k : Nat} {ns cs r : List α} (h : splO k ns cs = some r) (i : Nat) : r[i]? = if k ≤ i ∧ i < k + ns.length then ns[i - k]? else cs[i]? := by
  obtain ⟨h1, h2⟩ := splO_eq h
  subst h1
  have hk : (cs.take k).length = k := by simp; omega
  by_cases hi : i < k
  · rw [if_neg (by omega), List.append_assoc, List.getElem?_append_left (by omega), List.getElem?_take, if_pos hi]
  · rw [List.append_assoc, List.getElem?_append_right (by omega), hk]
    by_cases hj : i < k + ns.length
    · rw [if_pos ⟨by omega, hj⟩, List.getElem?_append_left (by omega)]
    · rw [if_neg (by omega), List.getElem?_append_right (by omega), List.getElem?_drop]
      congr 1
      omega

theorem CV_of {E : Env} {w : World} : ∀ {cs : List C} {us : List Value}, us.length = cs.length → (∀ (k : Nat) (c : C), cs[k]? = some c → ∃ u, us[k]? = some u ∧ cvC E w c u) → CV E w cs us
  | [], [], _, _ => trivial
  | c :: cs, u :: us, hl, h => by
    obtain ⟨v, h1, h2⟩ := h 0 c rfl
    simp at h1; subst h1
    exact ⟨h2, CV_of (by simpa using hl) fun k c' hk => by
      obtain ⟨v, h3, h4⟩ := h (k + 1) c' (by simpa using hk)
      exact ⟨v, by simpa using h3, h4⟩⟩
  | [], _ :: _, hl, _ => by simp at hl
  | _ :: _, [], hl, _ => by simp at hl

section
variable {P : Program} {N : Nat} {d : Option Tmp} {ty : TypeId} {ps : String} {af : Array Edge} {gd : Option (Nat × Bool)} {x y z : Operand}

theorem n_load_p_agg' {t : TypeId} {n : Nat} {o k : Nat} {vt : TypeId} {cs r : List C} [ht : TyAg P t n] (hk : partO k n cs = some r) :
    AWN P ⟨d, .load t x, ty, ps, af, gd⟩ [(x, .v (.c (.p o k)))] [(o, .var vt cs)] (.v (.agg r)) [] := by
  obtain ⟨h1, h2⟩ := partO_eq hk
  subst h1
  exact n_load_p_agg h2
/-- 'ldC' on a list, written out. -/
def ldO (g : Bool) : List D → Option (List C)
  | [] => some []
  | .i k n :: r => match ldO g r with | some cs => some (.d false (.i k n) :: cs) | none => none
  | .b x :: r => match ldO g r with | some cs => some (.d false (.b x) :: cs) | none => none
  | .str s :: r => match ldO g r with | some cs => some (.d false (.str s) :: cs) | none => none
  | .l xs :: r => match ldO g r with | some cs => some (.d g (.l xs) :: cs) | none => none
  | .k A n c :: r => match ldO g r with | some cs => some (.d false (.k A n c) :: cs) | none => none
theorem ldO_eq {g : Bool} : ∀ {xs : List D} {cs : List C}, ldO g xs = some cs → cs = xs.map (ldC g)
  | [], cs, h => by simp [ldO] at h; subst h; rfl
  | x :: xs, cs, h => by
    cases h1 : ldO g xs with
    | none => cases x <;> simp [ldO, h1] at h
    | some r => have := ldO_eq h1; subst this; cases x <;> simp [ldO, h1] at h <;> subst h <;> rfl
def ldPO (g : Bool) (j n : Nat) (e : List D) : Option (List C) := match partO j n e with | some r => ldO g r | none => none
theorem ldPO_eq {g : Bool} {j n : Nat} {e : List D} {cs : List C} (h : ldPO g j n e = some cs) : cs = ((e.drop j).take n).map (ldC g) ∧ j + n ≤ e.length := by
  unfold ldPO at h
  cases h1 : partO j n e with
  | none => simp [h1] at h
  | some r => simp [h1] at h; obtain ⟨h2, h3⟩ := partO_eq h1; subst h2; exact ⟨ldO_eq h, h3⟩
def ld1 (g : Bool) (j : Nat) (e : List D) : Option C := match ldPO g j 1 e with | some [c] => some c | _ => none
theorem ld1_eq {g : Bool} {j : Nat} {e : List D} {c : C} (h : ld1 g j e = some c) : ∃ xd, e[j]? = some xd ∧ c = ldC g xd := by
  unfold ld1 at h
  split at h
  · rename_i c' h1
    simp at h; subst h
    obtain ⟨h2, h3⟩ := ldPO_eq h1
    have hj : j < e.length := by omega
    refine ⟨e[j], List.getElem?_eq_getElem hj, ?_⟩
    rw [List.drop_eq_getElem_cons hj, List.take_succ_cons] at h2
    injection h2
  · cases h
theorem n_load_q_agg' {t : TypeId} {n : Nat} {g : Bool} {e : List D} {j : Nat} {cs : List C} [ht : TyAg P t n] (hj : ldPO g j n e = some cs) :
    AWN P ⟨d, .load t x, ty, ps, af, gd⟩ [(x, .v (.c (.q g e j)))] [] (.v (.agg cs)) [] := by
  obtain ⟨h1, h2⟩ := ldPO_eq hj
  subst h1
  exact n_load_q_agg h2
theorem n_load_q' {t : TypeId} {g : Bool} {e : List D} {j : Nat} {c : C} [ht : TySc P t] (hc : ld1 g j e = some c) : AWN P ⟨d, .load t x, ty, ps, af, gd⟩ [(x, .v (.c (.q g e j)))] [] (.v (.c c)) [] := by
  obtain ⟨xd, h1, rfl⟩ := ld1_eq hc
  exact n_load_q h1
theorem n_load_e' {t : TypeId} {o sz i j : Nat} {rt : TypeId} {els : List (List D)} {g m : Bool} {el : List D} {c : C} [ht : TySc P t] (he : els[i]? = some el) (hc : ld1 g j el = some c) :
    AWN P ⟨d, .load t x, ty, ps, af, gd⟩ [(x, .v (.c (.e o sz i j)))] [(o, .row rt sz els g m)] (.v (.c c)) [] := by
  obtain ⟨xd, h1, rfl⟩ := ld1_eq hc
  exact n_load_e he h1
theorem n_load_e_agg' {t : TypeId} {n : Nat} {o sz i j : Nat} {rt : TypeId} {els : List (List D)} {g m : Bool} {el : List D} {cs : List C} [ht : TyAg P t n] (he : els[i]? = some el) (hj : ldPO g j n el = some cs) :
    AWN P ⟨d, .load t x, ty, ps, af, gd⟩ [(x, .v (.c (.e o sz i j)))] [(o, .row rt sz els g m)] (.v (.agg cs)) [] := by
  obtain ⟨h1, h2⟩ := ldPO_eq hj
  subst h1
  exact n_load_e_agg he h2
theorem n_fieldv_agg' {t : TypeId} {f off ft n : Nat} {cs r : List C} [h : TyF P t f off ft] [ht : TyAg P ft n] (hr : partO off n cs = some r) : AWN P ⟨d, .field t x f, ty, ps, af, gd⟩ [(x, .v (.agg cs))] [] (.v (.agg r)) [] := by
  obtain ⟨h1, h2⟩ := partO_eq hr
  subst h1
  exact n_fieldv_agg

/-! a new block -/
def Env.new (E : Env) (l b c : Nat) : Env := { E with r := fun o => if o = l then some (b, c) else E.r o }
theorem env_new {cx : Cx} {E : Env} {w : World} (ok : EnvOK cx E w) {l : Nat} (hl : E.r l = none) (hv : rsv l = false) (o : Obj) (c : Nat) :
    EnvOK cx (E.new l w.heap.size c) (w.alloc o) ∧ Ext E w (E.new l w.heap.size c) (w.alloc o) := by
  have hne : ∀ o' x, E.r o' = some x → o' ≠ l := fun o' x h e => by subst e; rw [hl] at h; cases h
  refine ⟨⟨fun b hb => ?_, ok.gf, ok.gn, fun o' b c' h => ?_, fun o1 o2 b c1 c2 h1 h2 => ?_, ok.os, ok.tape, ok.output, ?_, fun b hb hW => ?_, fun o' x hx h => ?_, ok.ff, fun b h h' => (ok.gc b h h').of_eq (Below.heap_alloc w o b (ok.fb b h)), ok.sf.grow rfl rfl (fun _ h => .inl h) (fun o' b c' h => ?_) (by simp) (fun b hb => Below.heap_alloc w o b hb)⟩, ⟨fun o' x h => ?_, fun _ h => h, fun _ h => h, fun _ h => .inl h, fun b hb => Below.heap_alloc w o b hb, rfl, rfl, rfl⟩⟩
  · have := ok.fb b hb; simp; omega
  · simp only [Env.new] at h
    split at h
    · cases h; have := ok.size; simp; omega
    · obtain ⟨h3, h4⟩ := ok.rb o' b c' h; exact ⟨by simp; omega, h4⟩
  · simp only [Env.new] at h1 h2
    split at h1 <;> split at h2
    · omega
    · cases h1; have := ok.rb o2 _ _ h2; omega
    · cases h2; have := ok.rb o1 _ _ h1; omega
    · exact ok.inj o1 o2 b c1 c2 h1 h2
  · have := ok.size; simp; omega
  · have := ok.size; rw [Below.heap_alloc w o b (by omega)]; exact ok.block b hb hW
  · simp only [Env.new] at h
    split at h
    · rename_i e; subst e; rw [rsv_rsp hv] at hx; cases hx
    · exact ok.pin o' x hx h
  · simp only [Env.new] at h
    split at h
    · cases h; exact .inr (Nat.le_refl _)
    · exact .inl ⟨o', c', h⟩
  · simp only [Env.new]; rw [if_neg (hne o' x h)]; exact h
theorem ext_new {cx : Cx} {E : Env} {w : World} (ok : EnvOK cx E w) {l : Nat} (hl : E.r l = none) (o : Obj) (c : Nat) : Ext E w (E.new l w.heap.size c) (w.alloc o) :=
  ⟨fun o' x h => by
    have hne : o' ≠ l := fun e => by subst e; rw [hl] at h; cases h
    simp only [Env.new]; rw [if_neg hne]; exact h, fun _ h => h, fun _ h => h, fun _ h => .inl h, fun b hb => Below.heap_alloc w o b hb, rfl, rfl, rfl⟩
theorem new_r (E : Env) (l b c : Nat) : (E.new l b c).r l = some (b, c) := by simp [Env.new]
theorem new_heap (w : World) (o : Obj) : (w.alloc o).heap[w.heap.size]? = some o := heap_alloc_new w o
theorem awn_new {o : Oper} {needs : List (Operand × T)} {nob : List (Nat × Ob)} {out : T} {l : Nat} {nb : Ob}
    (h : ∀ (cx : Cx) (E : Env) (a : Act) (w : World), EnvOK cx E w → (∀ x t, (x, t) ∈ needs → cvT E w t (a.eval x)) → (∀ l ob, (l, ob) ∈ nob → relOb E w l ob) → E.r l = none →
      ∃ v ob c, (execOp a.eval o).run P w = .ok (.value v) (w.alloc ob) ∧ cvT (E.new l w.heap.size c) (w.alloc ob) out v ∧ relOb (E.new l w.heap.size c) (w.alloc ob) l nb) : AWN P o needs nob out [(l, nb)] := by
  intro cx E a w ok hn hb hl
  obtain ⟨v, ob, c, hr, hv, ho⟩ := h cx E a w ok hn hb (hl l nb (by simp)).1
  obtain ⟨ok', ext⟩ := env_new ok (hl l nb (by simp)).1 (hl l nb (by simp)).2 ob c
  unfold Oper.wp
  rw [hr]
  refine ⟨v, _, rfl, ok', ext, hv, fun l' ob' hm => ?_, fun l' x hx => ?_⟩
  · simp at hm; obtain ⟨rfl, rfl⟩ := hm; exact ho
  · simp only [Env.new] at hx
    split at hx
    · rename_i e; subst e; exact .inr ⟨nb, by simp⟩
    · exact .inl hx
theorem new_notF {cx : Cx} {E : Env} {w : World} (ok : EnvOK cx E w) (l c : Nat) : ¬ (E.new l w.heap.size c).F w.heap.size := fun h => by have := ok.fb _ h; omega
theorem n_alloc {t : TypeId} {zs : List C} {l : Nat} [hz : TyZ P t zs] : AWN P ⟨d, .alloc t, ty, ps, af, gd⟩ [] [] (.v (.c (.p l 0))) [(l, .var t zs)] :=
  awn_new fun cx E a w ok _ _ hl => by
    obtain ⟨i, z, h1, h2, h3⟩ := hz.h
    refine ⟨.pointer (some ⟨w.heap.size, 0, none⟩), .cells z.cells t, 0, by simp [execOp, Instr.alloc, zeroValue, typeInfo, h1, h2, newVar, newRow], ?_, ?_⟩
    · exact ⟨_, _, new_r _ _ _ _, rfl⟩
    · refine ⟨_, _, z.cells, new_r _ _ _ _, new_heap _ _, ?_, new_notF ok _ _⟩
      rw [← h3]; exact CV_const _ _ _
theorem n_box_agg {t : TypeId} {cs : List C} {l : Nat} : AWN P ⟨d, .box t x, ty, ps, af, gd⟩ [(x, .v (.agg cs))] [] (.v (.c (.p l 0))) [(l, .var t cs)] :=
  awn_new fun cx E a w ok hn _ hl => by
    obtain ⟨arr, hu, hcv⟩ := hn x _ (.head _)
    refine ⟨.pointer (some ⟨w.heap.size, 0, none⟩), .cells arr t, 0, by simp [execOp, Instr.box, hu, newVar, newRow, Value.cells], ⟨_, _, new_r _ _ _ _, rfl⟩, ?_⟩
    exact ⟨_, _, arr, new_r _ _ _ _, new_heap _ _, CV_keeps (.of_ext ok (ext_new ok hl _ 0)) hcv, new_notF ok _ _⟩
/-- A cell that may be stored. -/
def C.sto : C → Bool
  | .any => false
  | _ => true
theorem sto_ok {E : Env} {w : World} {c : C} {u : Value} (hs : c.sto = true) (h : cvC E w c u) : u.oneCell' = true ∧ u.cells = #[u] := by
  cases c with
  | d g x => exact ⟨rdD_scalar h, rdD_cells h⟩
  | w o n => obtain ⟨b, c, _, rfl⟩ := h; exact ⟨rfl, rfl⟩
  | wn o n =>
    rcases h with ⟨_, _, rfl⟩ | ⟨_, b, c, _, rfl⟩
    · exact ⟨rfl, rfl⟩
    · exact ⟨rfl, rfl⟩
  | s o sz off len => obtain ⟨A, c, b, k, _, rfl, _⟩ := h; exact ⟨rfl, rfl⟩
  | p o k => obtain ⟨b, c, _, rfl⟩ := h; exact ⟨rfl, rfl⟩
  | e o sz i j => obtain ⟨b, c, _, rfl⟩ := h; exact ⟨rfl, rfl⟩
  | q g x j => obtain ⟨b, k, rfl, _⟩ := h; exact ⟨rfl, rfl⟩
  | fn f => subst h; exact ⟨rfl, rfl⟩
  | nil => subst h; exact ⟨rfl, rfl⟩
  | any => cases hs
  | r l x => exact ⟨rdD_scalar h, rdD_cells h⟩
  | z x => exact rsD_scalar h
  | zq x j => obtain ⟨b, k, rfl, _⟩ := h; exact ⟨rfl, rfl⟩
theorem n_box_c {t : TypeId} {c : C} {l : Nat} (hs : c.sto = true) : AWN P ⟨d, .box t x, ty, ps, af, gd⟩ [(x, .v (.c c))] [] (.v (.c (.p l 0))) [(l, .var t [c])] :=
  awn_new fun cx E a w ok hn _ hl => by
    have hu : cvC E w c (a.eval x) := hn x _ (.head _)
    obtain ⟨h1, h2⟩ := sto_ok hs hu
    refine ⟨.pointer (some ⟨w.heap.size, 0, none⟩), .cells #[a.eval x] t, 0, by simp [execOp, Instr.box, h2, newVar, newRow], ⟨_, _, new_r _ _ _ _, rfl⟩, ?_⟩
    exact ⟨_, _, #[a.eval x], new_r _ _ _ _, new_heap _ _, ⟨cvC_keeps (.of_ext ok (ext_new ok hl _ 0)) hu, trivial⟩, new_notF ok _ _⟩

/-! what goes into a row: data alone -/
def cD : C → Option (D × Bool)
  | .d g (.l xs) => some (.l xs, g)
  | .d _ (.i k n) => some (.i k n, true)
  | .d _ (.b b) => some (.b b, true)
  | .d _ (.str s) => some (.str s, true)
  | .d _ (.k A n c) => some (.k A n c, true)
  | .nil => some (.l [], true)
  | _ => none
def csD : List C → Option (List D × Bool)
  | [] => some ([], true)
  | c :: cs => match cD c, csD cs with
    | some (x, g), some (xs, g') => some (x :: xs, g && g')
    | _, _ => none
def vD : V → Option (List D × Bool)
  | .c c => match cD c with
    | some (x, g) => some ([x], g)
    | none => none
  | .agg cs => csD cs
theorem cD_ok {cx : Cx} {E : Env} {w : World} (ok : EnvOK cx E w) {c : C} {x : D} {g : Bool} {u : Value} (h : cD c = some (x, g)) (hc : cvC E w c u) : rdD w (E.H g) x u ∧ u.oneCell' = true ∧ u.cells = #[u] := by
  cases c with
  | d g' x' =>
    refine ⟨?_, rdD_scalar hc, rdD_cells hc⟩
    cases x' <;> simp [cD] at h <;> obtain ⟨rfl, rfl⟩ := h <;> first | exact hc | (simp only [cvC, rdD] at hc ⊢; exact hc)
  | nil =>
    simp [cD] at h
    obtain ⟨rfl, rfl⟩ := h
    have hu : u = .slice none 0 0 := hc
    subst hu
    exact ⟨by rw [rdD]; exact ⟨none, 0, rfl, Nat.le_refl _, .inl rfl⟩, rfl, rfl⟩
  | _ => simp [cD] at h
theorem rdD_H {cx : Cx} {E : Env} {w : World} (ok : EnvOK cx E w) {g g' : Bool} {x : D} {u : Value} (h : rdD w (E.H (g)) x u) (hg : g' = true → g = true) : rdD w (E.H g') x u := by
  cases g' with
  | true => rwa [hg rfl] at h
  | false =>
    cases g with
    | false => exact h
    | true => exact rdD_mono (fun _ _ => rfl) (fun b hb => ok.gf b hb) x u h
theorem csD_ok {cx : Cx} {E : Env} {w : World} (ok : EnvOK cx E w) : ∀ {cs : List C} {xs : List D} {g : Bool} {us : List Value}, csD cs = some (xs, g) → CV E w cs us →
    xs.length = us.length ∧ (∀ u ∈ us, u.oneCell' = true) ∧ ∀ (j : Nat) (xd : D), xs[j]? = some xd → ∃ u, us[j]? = some u ∧ rdD w (E.H g) xd u
  | [], xs, g, us, h, hc => by
    simp [csD] at h; obtain ⟨rfl, rfl⟩ := h
    cases us with
    | nil => exact ⟨rfl, by simp, by simp⟩
    | cons _ _ => exact hc.elim
  | c :: cs, xs, g, us, h, hc => by
    cases us with
    | nil => exact hc.elim
    | cons u us =>
      cases h1 : cD c with
      | none => simp [csD, h1] at h
      | some p =>
        obtain ⟨x, g1⟩ := p
        cases h2 : csD cs with
        | none => simp [csD, h1, h2] at h
        | some p =>
          obtain ⟨xs', g2⟩ := p
          simp [csD, h1, h2] at h
          obtain ⟨rfl, rfl⟩ := h
          obtain ⟨k1, k2, k3⟩ := cD_ok ok h1 hc.1
          obtain ⟨m1, m2, m3⟩ := csD_ok ok h2 hc.2
          refine ⟨by simp [m1], by simpa using ⟨k2, m2⟩, fun j xd hj => ?_⟩
          cases j with
          | zero => simp at hj; subst hj; exact ⟨u, rfl, rdD_H ok k1 (by simp; intro a _; exact a)⟩
          | succ j =>
            obtain ⟨v, n1, n2⟩ := m3 j xd (by simpa using hj)
            exact ⟨v, by simpa using n1, rdD_H ok n2 (by simp)⟩
/-- A value as the cells of an element. -/
theorem vD_ok {cx : Cx} {E : Env} {w : World} (ok : EnvOK cx E w) {v : V} {xs : List D} {g : Bool} {u : Value} (h : vD v = some (xs, g)) (hv : cvV E w v u) :
    u.cells.size = xs.length ∧ (∀ c ∈ u.cells.toList, c.oneCell' = true) ∧ ∀ (j : Nat) (xd : D), xs[j]? = some xd → ∃ c, u.cells[j]? = some c ∧ rdD w (E.H g) xd c := by
  cases v with
  | c c =>
    cases h1 : cD c with
    | none => simp [vD, h1] at h
    | some p =>
      obtain ⟨x, g1⟩ := p
      simp [vD, h1] at h
      obtain ⟨rfl, rfl⟩ := h
      obtain ⟨k1, k2, k3⟩ := cD_ok ok h1 hv
      rw [k3]
      refine ⟨rfl, by simpa using k2, fun j xd hj => ?_⟩
      cases j with
      | zero => simp at hj; subst hj; exact ⟨u, rfl, k1⟩
      | succ j => simp at hj
  | agg cs =>
    obtain ⟨arr, rfl, hc⟩ := hv
    obtain ⟨m1, m2, m3⟩ := csD_ok ok h hc
    refine ⟨by simpa [Value.cells] using m1.symm, by simpa [Value.cells] using m2, fun j xd hj => ?_⟩
    obtain ⟨c, n1, n2⟩ := m3 j xd hj
    exact ⟨c, by simpa [Value.cells] using n1, n2⟩
end
end Go.AM
