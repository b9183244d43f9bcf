/-
  The abstract machine, part Zo: parts of rows; elements of rows that may be nil; function values.
-/
import Derived.Test.YtlpclccdbmoemaaGreatAmZn
set_option linter.unusedVariables false
namespace Go.AM
open Go.RowKit
section
variable {P : Program} {d : Option Tmp} {ty : TypeId} {ps : String} {af : Array Edge} {gd : Option (Nat × Bool)} {x y z : Operand}
theorem n_index_wn {t : TypeId} {e sz by_ : Nat} {g : Bool} {kd : IntKind} {o n : Nat} {i : Int} [ht : TySl P t e sz by_] (h0 : 0 ≤ i) (h1 : i < n) :
    AWN P ⟨d, .indexAddr t x y, ty, ps, af, gd⟩ [(x, .v (.c (.wn o n))), (y, .v (.c (.d g (.i kd i))))] [] (.v (.c (.e o sz i.toNat 0))) [] := by
  intro cx E a w ok hn hb hf
  have h2 : cvT E w (.v (.c (.w o n))) (a.eval x) := by
    rcases hn x _ (.head _) with ⟨_, h, _⟩ | ⟨_, h⟩
    · omega
    · exact h
  exact n_index_w (P := P) (d := d) (ty := ty) (ps := ps) (af := af) (gd := gd) (g := g) (kd := kd) (t := t) h0 h1 cx E a w ok (fun z u hm => by
    simp at hm
    rcases hm with ⟨rfl, rfl⟩ | ⟨rfl, rfl⟩
    · exact h2
    · exact hn _ _ (.tail _ (.head _))) (fun _ _ h => by cases h) hf
theorem row_of_rown {E : Env} {w : World} {o : Nat} {rt : TypeId} {sz i : Nat} {els : List (List D)} {g : Bool} {el : List D} (he : els[i]? = some el) (h : relOb E w o (.rown rt sz els g)) : relOb E w o (.row rt sz els g true) := by
  rcases h with ⟨_, h⟩ | ⟨_, b, c, arr, k1, k2, k3, k4, k5, k6, k7, k8⟩
  · subst h; simp at he
  · exact ⟨b, c, arr, k1, k2, k3, k4, k5, k6, k7, fun _ => k8, fun h => by cases h⟩
theorem n_load_en {t : TypeId} {o sz i j : Nat} {rt : TypeId} {els : List (List D)} {g : Bool} {el : List D} {c : C} [ht : TySc P t] (he : els[i]? = some el) (hc : ld1 g j el = some c) :
    AWN P ⟨d, .load t x, ty, ps, af, gd⟩ [(x, .v (.c (.e o sz i j)))] [(o, .rown rt sz els g)] (.v (.c c)) [] := by
  intro cx E a w ok hn hb hf
  exact n_load_e' (P := P) (m := true) he hc cx E a w ok hn (fun l x h => by simp at h; obtain ⟨rfl, rfl⟩ := h; exact row_of_rown he (hb _ _ (.head _))) hf
theorem n_load_en_agg {t : TypeId} {n : Nat} {o sz i j : Nat} {rt : TypeId} {els : List (List D)} {g : Bool} {el : List D} {cs : List C} [ht : TyAg P t n] (he : els[i]? = some el) (hj : ldPO g j n el = some cs) :
    AWN P ⟨d, .load t x, ty, ps, af, gd⟩ [(x, .v (.c (.e o sz i j)))] [(o, .rown rt sz els g)] (.v (.agg cs)) [] := by
  intro cx E a w ok hn hb hf
  exact n_load_e_agg' (P := P) (m := true) he hj cx E a w ok hn (fun l x h => by simp at h; obtain ⟨rfl, rfl⟩ := h; exact row_of_rown he (hb _ _ (.head _))) hf
end
section
variable {P : Program} {N : Nat} {d : Tmp} {ty : TypeId} {ps : String} {af : Array Edge} {gd : Option (Nat × Bool)} {x y z : Operand} {sl : List (Nat × T)} {ob : List (Nat × Ob)} {nx : Nat} {α : Type} {enc : α → List D}
/-- Into a row that may be nil. -/
theorem xwnT {t : TypeId} {e sz by_ : Nat} {g : Bool} {kd : IntKind} {o n : Nat} {i : Int} {ys : List α} {a : α} [TySl P t e sz by_] (H : ix ys i = some a) (hn : ys.length = n) (hx : opT sl x = .v (.c (.wn o n))) (hy : opT sl y = .v (.c (.d g (.i kd i)))) (hN : nlt d N = true) :
    NS0 P N ⟨some d, .indexAddr t x y, ty, ps, af, gd⟩ sl ob nx d (.v (.c (.e o sz i.toNat 0))) ⟨d, [(x, .v (.c (.wn o n))), (y, .v (.c (.d g (.i kd i))))], [], .v (.c (.e o sz i.toNat 0)), []⟩ :=
  ns_mk (st := ⟨sl, ob, nx⟩) (n_index_wn (ixE H).1 (by have := ix_lt H; omega)) rfl hN ⟨hx, hy, trivial⟩ trivial rfl
theorem oen {t : TypeId} {o sz i j : Nat} {rt : TypeId} {els : List (List D)} {g : Bool} {el : List D} {c : C} [TySc P t] (hx : opT sl x = .v (.c (.e o sz i j))) (ho : go ob o = some (.rown rt sz els g)) (hN : nlt d N = true) (he : els[i]? = some el) (hc : ld1 g j el = some c) :
    NS0 P N ⟨some d, .load t x, ty, ps, af, gd⟩ sl ob nx d (.v (.c c)) ⟨d, [(x, .v (.c (.e o sz i j)))], [(o, .rown rt sz els g)], .v (.c c), []⟩ := ns_mk (st := ⟨sl, ob, nx⟩) (n_load_en he hc) rfl hN ⟨hx, trivial⟩ ⟨ho, trivial⟩ rfl
theorem oean {t : TypeId} {n : Nat} {o sz i j : Nat} {rt : TypeId} {els : List (List D)} {g : Bool} {el : List D} {cs : List C} [TyAg P t n] (hx : opT sl x = .v (.c (.e o sz i j))) (ho : go ob o = some (.rown rt sz els g)) (hN : nlt d N = true) (he : els[i]? = some el) (hc : ldPO g j n el = some cs) :
    NS0 P N ⟨some d, .load t x, ty, ps, af, gd⟩ sl ob nx d (.v (.agg cs)) ⟨d, [(x, .v (.c (.e o sz i j)))], [(o, .rown rt sz els g)], .v (.agg cs), []⟩ := ns_mk (st := ⟨sl, ob, nx⟩) (n_load_en_agg he hc) rfl hN ⟨hx, trivial⟩ ⟨ho, trivial⟩ rfl
theorem ix_nn {ys : List α} {i : Int} {a : α} (H : ix ys i = some a) : ys.map enc ≠ [] := by
  intro h
  have := ix_lt H
  have h0 := (ixE H).1
  rw [List.map_eq_nil_iff] at h
  subst h
  simp at this; omega
end
/-! a row that may be nil becomes data -/
def fzNC (o : Nat) (x : D) (g : Bool) (k : Nat) : C → Option (C × List (Nat × Nat))
  | .wn l n => match Nat.beq l o with
    | true => some (.d g x, [(k, n)])
    | false => some (.wn l n, [])
  | c => some (c, [])
def fzNCs (o : Nat) (x : D) (g : Bool) (k : Nat) : List C → Option (List C × List (Nat × Nat))
  | [] => some ([], [])
  | c :: cs => match fzNC o x g k c, fzNCs o x g k cs with
    | some (x, e), some (xs, es) => some (x :: xs, e ++ es)
    | _, _ => none
def fzNV (o : Nat) (x : D) (g : Bool) (k : Nat) : V → Option (V × List (Nat × Nat))
  | .c c => match fzNC o x g k c with
    | some (x, e) => some (.c x, e)
    | none => none
  | .agg cs => match fzNCs o x g k cs with
    | some (x, e) => some (.agg x, e)
    | none => none
def fzNVs (o : Nat) (x : D) (g : Bool) (k : Nat) : List V → Option (List V × List (Nat × Nat))
  | [] => some ([], [])
  | c :: cs => match fzNV o x g k c, fzNVs o x g k cs with
    | some (x, e), some (xs, es) => some (x :: xs, e ++ es)
    | _, _ => none
def fzNT (o : Nat) (x : D) (g : Bool) (k : Nat) : T → Option (T × List (Nat × Nat))
  | .v v => match fzNV o x g k v with
    | some (x, e) => some (.v x, e)
    | none => none
  | .tup vs => match fzNVs o x g k vs with
    | some (x, e) => some (.tup x, e)
    | none => none
  | .any => some (.any, [])
def fzNS (o : Nat) (x : D) (g : Bool) (k : Nat) : List (Nat × T) → Option (List (Nat × T) × List (Nat × Nat))
  | [] => some ([], [])
  | (j, t) :: r => match fzNT o x g k t, fzNS o x g k r with
    | some (x, e), some (xs, es) => some ((j, x) :: xs, e ++ es)
    | _, _ => none
def fzNO (o : Nat) (x : D) (g : Bool) (k : Nat) : List (Nat × Ob) → Option (List (Nat × Ob) × List (Nat × Nat))
  | [] => some ([], [])
  | (j, .var t cs) :: r => match Nat.beq j o with
    | true => none
    | false => match fzNCs o x g k cs, fzNO o x g k r with
      | some (x, e), some (xs, es) => some ((j, .var t x) :: xs, e ++ es)
      | _, _ => none
  | (j, .row t sz els gg m) :: r => match fzNO o x g k r with
    | some (xs, es) => match Nat.beq j o with
      | true => some (xs, es)
      | false => some ((j, .row t sz els gg m) :: xs, es)
    | none => none
  | (j, .rown t sz els gg) :: r => match fzNO o x g k r with
    | some (xs, es) => match Nat.beq j o with
      | true => some (xs, es)
      | false => some ((j, .rown t sz els gg) :: xs, es)
    | none => none
  | (j, .abs i y) :: r => match fzNO o x g k r with
    | some (xs, es) => match Nat.beq j o with
      | true => some (xs, es)
      | false => some ((j, .abs i y) :: xs, es)
    | none => none
section
variable {E E' : Env} {w : World} {o k : Nat} {x : D} {g : Bool} (hd : ∀ u, cvC E w (.wn o k) u → cvC E' w (.d g x) u) (hk : Keeps E w E' w)
include hd hk
theorem fzNC_ok {c c' : C} {e : List (Nat × Nat)} {u : Value} (h : fzNC o x g k c = some (c', e)) (he : Eqs e) (hc : cvC E w c u) : cvC E' w c' u := by
  cases c with
  | wn l n =>
    simp only [fzNC] at h
    split at h
    · rename_i hb
      have := Nat.eq_of_beq_eq_true hb
      subst this
      simp at h; obtain ⟨rfl, rfl⟩ := h
      have hn : k = n := he.1
      subst hn
      exact hd u hc
    · simp at h; obtain ⟨rfl, rfl⟩ := h; exact cvC_keeps hk hc
  | _ => simp only [fzNC, Option.some.injEq, Prod.mk.injEq] at h; obtain ⟨rfl, rfl⟩ := h; exact cvC_keeps hk hc
theorem fzNCs_ok : ∀ {cs cs' : List C} {e : List (Nat × Nat)} {us : List Value}, fzNCs o x g k cs = some (cs', e) → Eqs e → CV E w cs us → CV E' w cs' us
  | [], cs', e, us, h, _, hc => by
    simp [fzNCs] at h; obtain ⟨rfl, rfl⟩ := h
    cases us with
    | nil => trivial
    | cons _ _ => exact hc.elim
  | c :: cs, cs', e, us, h, he, hc => by
    cases us with
    | nil => exact hc.elim
    | cons u us =>
      simp only [fzNCs] at h
      split at h
      · rename_i h1 h2
        simp at h; obtain ⟨rfl, rfl⟩ := h
        obtain ⟨k1, k2⟩ := Eqs_append he
        exact ⟨fzNC_ok hd hk h1 k1 hc.1, fzNCs_ok h2 k2 hc.2⟩
      · cases h
theorem fzNV_ok {v v' : V} {e : List (Nat × Nat)} {u : Value} (h : fzNV o x g k v = some (v', e)) (he : Eqs e) (hv : cvV E w v u) : cvV E' w v' u := by
  cases v with
  | c c =>
    simp only [fzNV] at h
    split at h
    · rename_i h1; simp at h; obtain ⟨rfl, rfl⟩ := h; exact fzNC_ok hd hk h1 he hv
    · cases h
  | agg cs =>
    simp only [fzNV] at h
    split at h
    · rename_i h1; simp at h; obtain ⟨rfl, rfl⟩ := h; obtain ⟨arr, hu, hc⟩ := hv; exact ⟨arr, hu, fzNCs_ok hd hk h1 he hc⟩
    · cases h
theorem fzNVs_ok : ∀ {cs cs' : List V} {e : List (Nat × Nat)} {us : List Value}, fzNVs o x g k cs = some (cs', e) → Eqs e → VV E w cs us → VV E' w cs' us
  | [], cs', e, us, h, _, hc => by
    simp [fzNVs] at h; obtain ⟨rfl, rfl⟩ := h
    cases us with
    | nil => trivial
    | cons _ _ => exact hc.elim
  | c :: cs, cs', e, us, h, he, hc => by
    cases us with
    | nil => exact hc.elim
    | cons u us =>
      simp only [fzNVs] at h
      split at h
      · rename_i h1 h2
        simp at h; obtain ⟨rfl, rfl⟩ := h
        obtain ⟨k1, k2⟩ := Eqs_append he
        exact ⟨fzNV_ok hd hk h1 k1 hc.1, fzNVs_ok h2 k2 hc.2⟩
      · cases h
theorem fzNT_ok {v v' : T} {e : List (Nat × Nat)} {u : Value} (h : fzNT o x g k v = some (v', e)) (he : Eqs e) (hv : cvT E w v u) : cvT E' w v' u := by
  cases v with
  | v v =>
    simp only [fzNT] at h
    split at h
    · rename_i h1; simp at h; obtain ⟨rfl, rfl⟩ := h; exact fzNV_ok hd hk h1 he hv
    · cases h
  | tup vs =>
    simp only [fzNT] at h
    split at h
    · rename_i h1; simp at h; obtain ⟨rfl, rfl⟩ := h; obtain ⟨arr, hu, hc⟩ := hv; exact ⟨arr, hu, fzNVs_ok hd hk h1 he hc⟩
    · cases h
  | any => simp [fzNT] at h; obtain ⟨rfl, rfl⟩ := h; trivial
theorem fzNS_ok {j : Nat} {u : Value} : ∀ {sl sl' : List (Nat × T)} {e : List (Nat × Nat)}, fzNS o x g k sl = some (sl', e) → Eqs e → cvT E w (gt sl j) u → cvT E' w (gt sl' j) u
  | [], sl', e, h, _, _ => by simp [fzNS] at h; obtain ⟨rfl, rfl⟩ := h; trivial
  | (i, t) :: r, sl', e, h, he, hc => by
    simp only [fzNS] at h
    split at h
    · rename_i h1 h2
      simp at h; obtain ⟨rfl, rfl⟩ := h
      obtain ⟨k1, k2⟩ := Eqs_append he
      by_cases hj : i = j
      · subst hj; rw [gt_same] at hc ⊢; exact fzNT_ok hd hk h1 k1 hc
      · rw [gt_other _ _ hj] at hc ⊢; exact fzNS_ok h2 k2 hc
    · cases h
theorem fzNO_go {l : Nat} {y : Ob} (hlo : l ≠ o) (hF : ∀ b c, E.r l = some (b, c) → ¬ E.F b → ¬ E'.F b) : ∀ {ob ob' : List (Nat × Ob)} {e : List (Nat × Nat)}, fzNO o x g k ob = some (ob', e) → Eqs e → go ob' l = some y → (∀ y, go ob l = some y → relOb E w l y) → relOb E' w l y
  | [], ob', e, h, _, hy, _ => by simp [fzNO] at h; obtain ⟨rfl, rfl⟩ := h; cases hy
  | (i, .var t cs) :: r, ob', e, h, he, hy, hb => by
    simp only [fzNO] at h
    split at h
    · cases h
    · split at h
      · rename_i a1 a2
        simp at h; obtain ⟨rfl, rfl⟩ := h
        obtain ⟨k1, k2⟩ := Eqs_append he
        by_cases hi : i = l
        · subst hi
          rw [go_same] at hy; cases hy
          obtain ⟨b, c, arr, q1, q2, q3, q4⟩ := hb _ (go_same _ _ _)
          exact ⟨b, c, arr, hk.r _ _ q1, q2, fzNCs_ok hd hk a1 k1 q3, hF b c q1 q4⟩
        · rw [go_other _ _ hi] at hy
          exact fzNO_go hlo hF a2 k2 hy (fun y hy => hb y (by rw [go_other _ _ hi]; exact hy))
      · cases h
  | (i, .row t sz els gg m) :: r, ob', e, h, he, hy, hb => by
    simp only [fzNO] at h
    split at h
    · rename_i a2
      split at h
      · rename_i hb2
        simp at h; obtain ⟨rfl, rfl⟩ := h
        have hio := Nat.eq_of_beq_eq_true hb2
        exact fzNO_go hlo hF a2 he hy (fun y hy => hb y (by rw [go_other _ _ (fun e => hlo (e.symm.trans hio))]; exact hy))
      · simp at h; obtain ⟨rfl, rfl⟩ := h
        by_cases hi : i = l
        · subst hi
          rw [go_same] at hy; cases hy
          exact relOb_keeps hk (fun _ _ _ => rfl) (fun b c hr => hF b c hr) (hb _ (go_same _ _ _))
        · rw [go_other _ _ hi] at hy
          exact fzNO_go hlo hF a2 he hy (fun y hy => hb y (by rw [go_other _ _ hi]; exact hy))
    · cases h
  | (i, .rown t sz els gg) :: r, ob', e, h, he, hy, hb => by
    simp only [fzNO] at h
    split at h
    · rename_i a2
      split at h
      · rename_i hb2
        simp at h; obtain ⟨rfl, rfl⟩ := h
        have hio := Nat.eq_of_beq_eq_true hb2
        exact fzNO_go hlo hF a2 he hy (fun y hy => hb y (by rw [go_other _ _ (fun e => hlo (e.symm.trans hio))]; exact hy))
      · simp at h; obtain ⟨rfl, rfl⟩ := h
        by_cases hi : i = l
        · subst hi
          rw [go_same] at hy; cases hy
          exact relOb_keeps hk (fun _ _ _ => rfl) (fun b c hr => hF b c hr) (hb _ (go_same _ _ _))
        · rw [go_other _ _ hi] at hy
          exact fzNO_go hlo hF a2 he hy (fun y hy => hb y (by rw [go_other _ _ hi]; exact hy))
    · cases h
  | (i, .abs _ _) :: r, ob', e, h, he, hy, hb => by
    simp only [fzNO] at h
    split at h
    · rename_i a2
      split at h
      · rename_i hb2
        simp at h; obtain ⟨rfl, rfl⟩ := h
        have hio := Nat.eq_of_beq_eq_true hb2
        exact fzNO_go hlo hF a2 he hy (fun y hy => hb y (by rw [go_other _ _ (fun e => hlo (e.symm.trans hio))]; exact hy))
      · simp at h; obtain ⟨rfl, rfl⟩ := h
        by_cases hi : i = l
        · subst hi
          rw [go_same] at hy; cases hy
          exact relOb_keeps hk (fun _ _ _ => rfl) (fun b c hr => hF b c hr) (hb _ (go_same _ _ _))
        · rw [go_other _ _ hi] at hy
          exact fzNO_go hlo hF a2 he hy (fun y hy => hb y (by rw [go_other _ _ hi]; exact hy))
    · cases h
end
theorem fzNO_none {o k : Nat} {x : D} {g : Bool} : ∀ {ob ob' : List (Nat × Ob)} {e : List (Nat × Nat)}, fzNO o x g k ob = some (ob', e) → go ob' o = none
  | [], ob', e, h => by simp [fzNO] at h; obtain ⟨rfl, rfl⟩ := h; rfl
  | (i, .var t cs) :: r, ob', e, h => by
    simp only [fzNO] at h
    split at h
    · cases h
    · rename_i hb
      split at h
      · rename_i a1 a2
        simp at h; obtain ⟨rfl, rfl⟩ := h
        rw [go_other _ _ (beqF hb)]; exact fzNO_none a2
      · cases h
  | (i, .row t sz els gg m) :: r, ob', e, h => by
    simp only [fzNO] at h
    split at h
    · rename_i a2
      split at h
      · simp at h; obtain ⟨rfl, rfl⟩ := h; exact fzNO_none a2
      · rename_i hb
        simp at h; obtain ⟨rfl, rfl⟩ := h
        rw [go_other _ _ (beqF hb)]; exact fzNO_none a2
    · cases h
  | (i, .rown t sz els gg) :: r, ob', e, h => by
    simp only [fzNO] at h
    split at h
    · rename_i a2
      split at h
      · simp at h; obtain ⟨rfl, rfl⟩ := h; exact fzNO_none a2
      · rename_i hb
        simp at h; obtain ⟨rfl, rfl⟩ := h
        rw [go_other _ _ (beqF hb)]; exact fzNO_none a2
    · cases h
  | (i, .abs _ _) :: r, ob', e, h => by
    simp only [fzNO] at h
    split at h
    · rename_i a2
      split at h
      · simp at h; obtain ⟨rfl, rfl⟩ := h; exact fzNO_none a2
      · rename_i hb
        simp at h; obtain ⟨rfl, rfl⟩ := h
        rw [go_other _ _ (beqF hb)]; exact fzNO_none a2
    · cases h
/-- A row that may be nil is not written any more: it is data. -/
theorem weak_frzN {N nx ty sz : Nat} {sl sl' : List (Nat × T)} {ob ob' : List (Nat × Ob)} {els : List (List D)} {g : Bool} {e1 e2 : List (Nat × Nat)} (o : Nat) (hrv : rsv o = false) (ho : go ob o = some (.rown ty sz els g)) (hs : fzNS o (.l els) g els.length sl = some (sl', e1)) (hb : fzNO o (.l els) g els.length ob = some (ob', e2)) (h1 : Eqs e1) (h2 : Eqs e2) :
    Weak N ⟨sl, ob, nx⟩ ⟨sl', ob', nx⟩ := by
  intro cx E a w hR
  rcases hR.obs o _ ho with ⟨hE, hels⟩ | ⟨hE, b, c, arr, hr, hh, ha, hlc, hmx, hes, hrd, hF⟩
  · have hk : Keeps E w E w := ⟨fun _ _ h => h, fun _ _ h => h, fun _ _ _ => rfl, fun _ _ h => ⟨h, rfl⟩, fun _ h => ⟨h, .refl _ _⟩, rfl⟩
    have hd : ∀ u, cvC E w (.wn o els.length) u → cvC E w (.d g (.l els)) u := by
      intro u hu
      rcases hu with ⟨_, _, rfl⟩ | ⟨hu, _⟩
      · subst hels; show rdD _ _ _ _; rw [rdD]; exact ⟨none, 0, rfl, Nat.le_refl _, .inl rfl⟩
      · exact absurd hE hu
    refine ⟨E, hR.ok, hR.dom, fun l y hl => ?_, fun j => fzNS_ok hd hk hs h1 (hR.sl j), hR.dfr, hR.size, hR.td⟩
    by_cases e : l = o
    · subst e; rw [fzNO_none hb] at hl; cases hl
    · exact fzNO_go hd hk e (fun _ _ _ h => h) hb h2 hl (fun y hy => hR.obs l y hy)
  · obtain ⟨hb1, hb2⟩ := hR.ok.rb o b c hr
    have hb3 : cx.w0.heap.size ≤ b := hb2.resolve_right (fun h => by rw [hrv] at h; cases h.2)
    let E' : Env := ⟨E.r, fun k => E.F k ∨ k = b, fun k => E.G k ∨ (g = true ∧ k = b), E.T, E.Z, E.n⟩
    have hH : ∀ g' k, E.H g' k → E'.H g' k := fun g' k hk => by cases g' <;> exact .inl hk
    have hk : Keeps E w E' w := ⟨fun _ _ h => h, hH, fun _ _ _ => rfl, fun _ _ h => ⟨h, rfl⟩, fun _ h => ⟨h, .refl _ _⟩, rfl⟩
    have hd : ∀ u, cvC E w (.wn o els.length) u → cvC E' w (.d g (.l els)) u := by
      intro u hu
      rcases hu with ⟨hu, _⟩ | ⟨_, b', c', hr', rfl⟩
      · exact absurd hu hE
      · rw [hr] at hr'; cases hr'
        show rdD _ _ _ _
        rw [rdD]
        refine ⟨_, _, rfl, hlc, .inr ⟨b, 0, rfl, ?_, rdLL_mono' (fun _ _ => rfl) (hH g) rfl _ _ hrd⟩⟩
        cases g
        · exact .inr rfl
        · exact .inr ⟨rfl, rfl⟩
    refine ⟨E', ⟨?_, ?_, ?_, hR.ok.rb, hR.ok.inj, hR.ok.os, hR.ok.tape, hR.ok.output, hR.ok.size, hR.ok.block, hR.ok.pin, fun k hk => hk.elim (hR.ok.ff k) (fun e => .inr (e ▸ hb3)), fun k hk hk' => hk.elim (fun h => hR.ok.gc k h hk') (fun e => e ▸ ⟨arr, ty, hh⟩),
      ⟨fun l k h => ?_, hR.ok.sf.tt, fun k h => ?_, hR.ok.sf.zs, hR.ok.sf.ze⟩⟩, hR.dom, fun l y hl => ?_, fun j => fzNS_ok hd hk hs h1 (hR.sl j), hR.dfr, hR.size, hR.td⟩
    · rintro k (h | rfl)
      · exact hR.ok.fb k h
      · exact hb1
    · rintro k (h | ⟨_, rfl⟩)
      · exact .inl (hR.ok.gf k h)
      · exact .inr rfl
    · rintro k (h | ⟨_, rfl⟩)
      · exact hR.ok.gn k h
      · exact .inl hb3
    · obtain ⟨h1, h2, h3, h4⟩ := hR.ok.sf.tb l k h
      exact ⟨h1, fun hk => hk.elim h2 (fun e => by subst e; exact h3 o c hr), h3, h4⟩
    · obtain ⟨h1, h2, h3, h4⟩ := hR.ok.sf.zc k h
      exact ⟨h1, fun hk => hk.elim h2 (fun e => by subst e; exact h3 o c hr), h3, h4⟩
    · by_cases e : l = o
      · subst e; rw [fzNO_none hb] at hl; cases hl
      · exact fzNO_go hd hk e (fun b' c' hr' hn hn' => hn'.elim hn (fun h => by subst h; exact e (hR.ok.inj _ _ _ _ _ hr' hr))) hb h2 hl (fun y hy => hR.obs l y hy)
end Go.AM
