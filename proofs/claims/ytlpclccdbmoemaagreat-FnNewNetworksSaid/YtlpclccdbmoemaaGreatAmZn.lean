/-
  The abstract machine, part Zn: the call of a function that writes things handed to it.
-/
import Derived.Test.YtlpclccdbmoemaaGreatAmZm
set_option linter.unusedVariables false
namespace Go.AM
open Go.RowKit
def look : List (Nat × Nat) → Nat → Option Nat
  | [], _ => none
  | (a, b) :: r, n => match Nat.beq a n with
    | true => some b
    | false => look r n
def inv : List (Nat × Nat) → List (Nat × Nat)
  | [] => []
  | (a, b) :: r => (b, a) :: inv r
theorem look_mem {a b : Nat} : ∀ {m : List (Nat × Nat)}, look m a = some b → (a, b) ∈ m
  | (x, y) :: r, h => by
    simp only [look] at h
    split at h
    · rename_i hb; have := Nat.eq_of_beq_eq_true hb; subst this; cases h; exact .head _
    · exact .tail _ (look_mem h)
theorem mem_look {a b : Nat} : ∀ {m : List (Nat × Nat)}, (m.map (·.1)).Nodup → (a, b) ∈ m → look m a = some b
  | (x, y) :: r, hn, h => by
    simp only [look]
    simp only [List.map_cons, List.nodup_cons] at hn
    rcases List.mem_cons.1 h with e | h
    · cases e; simp
    · have hne : x ≠ a := fun e => hn.1 (by subst e; exact List.mem_map.2 ⟨_, h, rfl⟩)
      rw [beq_ne hne]; exact mem_look hn.2 h
theorem mem_inv {a b : Nat} : ∀ {m : List (Nat × Nat)}, (b, a) ∈ inv m ↔ (a, b) ∈ m
  | [] => by simp [inv]
  | (x, y) :: r => by
    simp only [inv, List.mem_cons, Prod.mk.injEq, mem_inv (m := r)]
    constructor
    · rintro (⟨h1, h2⟩ | h)
      · exact .inl ⟨h2, h1⟩
      · exact .inr h
    · rintro (⟨h1, h2⟩ | h)
      · exact .inl ⟨h2, h1⟩
      · exact .inr h
theorem inv_keys : ∀ (m : List (Nat × Nat)), (inv m).map (·.1) = m.map (·.2)
  | [] => rfl
  | (x, y) :: r => by simp [inv, inv_keys r]
/-- Cells under other labels. -/
def rlC (m : List (Nat × Nat)) : C → Option C
  | .d g x => some (.d g x)
  | .nil => some .nil
  | .any => some .any
  | .fn f => some (.fn f)
  | .w l n => match look m l with
    | some k => some (.w k n)
    | none => none
  | .wn l n => match look m l with
    | some k => some (.wn k n)
    | none => none
  | .p l j => match look m l with
    | some k => some (.p k j)
    | none => none
  | _ => none
/-- The same, for what is handed in. -/
def rlB (ob : List (Nat × Ob)) (m : List (Nat × Nat)) : C → Option C
  | .d g x => some (.d g x)
  | .nil => some .nil
  | .any => some .any
  | .fn f => some (.fn f)
  | .w l n => match look m l, go ob l with
    | some k, some (.row ..) => some (.w k n)
    | _, _ => none
  | .wn l n => match look m l, go ob l with
    | some k, some (.rown ..) => some (.wn k n)
    | _, _ => none
  | .p l j => match look m l, go ob l with
    | some k, some (.var ..) => some (.p k j)
    | _, _ => none
  | _ => none
/-- The same; all data is old. -/
def agC (ob : List (Nat × Ob)) (m : List (Nat × Nat)) : C → Option C
  | .d _ x => some (.d false x)
  | c => rlB ob m c
def mapTs (f : C → Option C) : List T → Option (List T)
  | [] => some []
  | c :: cs => match mapT f c, mapTs f cs with
    | some x, some xs => some (x :: xs)
    | _, _ => none
def rlOb (f : C → Option C) : Ob → Option Ob
  | .var t cs => match mapCs f cs with
    | some cs' => some (.var t cs')
    | none => none
  | .row t sz els g true => some (.row t sz els g true)
  | .row _ _ _ _ false => none
  | .rown t sz els g => some (.rown t sz els g)
  | .abs _ _ => none
/-- The things handed in, under the contract's labels. -/
def pickX (mi : List (Nat × Nat)) (ob : List (Nat × Ob)) : List (Nat × Nat) → Option (List (Nat × Ob))
  | [] => some []
  | (k, o) :: r => match go ob o with
    | some x => match rlOb (rlB ob mi) x, pickX mi ob r with
      | some y, some ys => some ((k, y) :: ys)
      | _, _ => none
    | none => none
/-- Things under the caller's labels. -/
def rlObs (m : List (Nat × Nat)) : List (Nat × Ob) → Option (List (Nat × Ob))
  | [] => some []
  | (k, x) :: r => match look m k, rlOb (rlC m) x, rlObs m r with
    | some o, some y, some ys => some ((o, y) :: ys)
    | _, _, _ => none
/-- What a slot says behind the call. -/
def kvC (mi : List (Nat × Nat)) : C → Option C
  | .w l n => match look mi l with
    | some _ => some .any
    | none => some (.w l n)
  | .wn l n => match look mi l with
    | some _ => some .any
    | none => some (.wn l n)
  | .s l a b c => match look mi l with
    | some _ => some .any
    | none => some (.s l a b c)
  | .e l a b c => match look mi l with
    | some _ => some .any
    | none => some (.e l a b c)
  | .p l j => match look mi l with
    | some k => match rsp k with
      | true => some (.p l j)
      | false => some .any
    | none => some (.p l j)
  | c => some c
def hasV (ys : List (Nat × Ob)) (k : Nat) : Bool := match go ys k with
  | some (.var ..) => true
  | _ => false
def cntUp (nx : Nat) : List (Nat × Nat) → Nat → Bool
  | [], n => Nat.beq n nx
  | (k, o) :: r, n => ((Nat.beq o nx && !rsv nx) && !rsv k) && cntUp (nx + 1) r n
def mOK (m nl : List (Nat × Nat)) (nx n : Nat) (ys : List (Nat × Ob)) : Bool :=
  ((nodupO ((m ++ nl).map (·.1)) && nodupO ((m ++ nl).map (·.2))) && (m.all (fun p => rsv p.1 && nlt p.2 nx) && cntUp nx nl n)) &&
    ((m.all (fun p => rsp p.1 || rsv p.2) || m.all (fun p => rsp p.1 || !rsv p.2)) && m.all (fun p => (!rsp p.2 || rsp p.1) && ((!rsp p.1 || hasV ys p.1) && (go ys p.1).isSome)))
theorem cntUp_ok : ∀ {nl : List (Nat × Nat)} {nx n : Nat}, cntUp nx nl n = true → nx ≤ n ∧ ∀ k o, (k, o) ∈ nl → nx ≤ o ∧ o < n ∧ rsv o = false ∧ rsv k = false
  | [], nx, n, h => by have := Nat.eq_of_beq_eq_true h; subst this; exact ⟨Nat.le_refl _, by simp⟩
  | (k, o) :: r, nx, n, h => by
    simp only [cntUp, Bool.and_eq_true, Bool.not_eq_true'] at h
    obtain ⟨⟨⟨h1, h2⟩, h3⟩, h4⟩ := h
    have := Nat.eq_of_beq_eq_true h1
    subst this
    obtain ⟨k1, k2⟩ := cntUp_ok h4
    refine ⟨by omega, fun k' o' hm => ?_⟩
    rcases List.mem_cons.1 hm with e | hm
    · cases e; exact ⟨Nat.le_refl _, by omega, h2, h3⟩
    · have := k2 k' o' hm; exact ⟨by omega, this.2.1, this.2.2⟩
theorem mapTs_ok {f : C → Option C} {E E' : Env} {w w' : World} (hf : ∀ c c' u, f c = some c' → cvC E w c u → cvC E' w' c' u) {a : Act} : ∀ {ts ts' : List T} {args : List Operand}, mapTs f ts = some ts' → ts.length = args.length → (∀ x t, (x, t) ∈ args.zip ts → cvT E w t (a.eval x)) → TV E' w' ts' (args.map a.eval)
  | [], ts', args, h, hl, hn => by
    simp [mapTs] at h; subst h
    cases args with
    | nil => trivial
    | cons _ _ => simp at hl
  | t :: ts, ts', args, h, hl, hn => by
    simp only [mapTs] at h
    split at h
    · rename_i h1 h2
      simp at h; subst h
      cases args with
      | nil => simp at hl
      | cons y args => exact ⟨mapT_ok hf h1 (hn y t (by simp)), mapTs_ok hf h2 (by simpa using hl) (fun x t hm => hn x t (by simp [hm]))⟩
    · cases h
theorem pickX_go {mi : List (Nat × Nat)} {ob : List (Nat × Ob)} : ∀ {m : List (Nat × Nat)} {xs : List (Nat × Ob)} {l : Nat} {x : Ob}, pickX mi ob m = some xs → go xs l = some x → ∃ o x0, look m l = some o ∧ go ob o = some x0 ∧ rlOb (rlB ob mi) x0 = some x
  | [], xs, l, x, h, hg => by simp [pickX] at h; subst h; cases hg
  | (k, o) :: r, xs, l, x, h, hg => by
    simp only [pickX] at h
    split at h
    · rename_i x0 h0
      split at h
      · rename_i y ys h1 h2
        simp at h; subst h
        by_cases e : k = l
        · subst e; rw [go_same] at hg; cases hg; exact ⟨o, x0, by simp [look], h0, h1⟩
        · rw [go_other _ _ e] at hg
          obtain ⟨o', x', a1, a2, a3⟩ := pickX_go h2 hg
          exact ⟨o', x', by simp only [look, beq_ne e]; exact a1, a2, a3⟩
      · cases h
    · cases h
theorem pickX_all {mi : List (Nat × Nat)} {ob : List (Nat × Ob)} : ∀ {m : List (Nat × Nat)} {xs : List (Nat × Ob)} {k o : Nat}, pickX mi ob m = some xs → (k, o) ∈ m → ∃ x0 x, go ob o = some x0 ∧ rlOb (rlB ob mi) x0 = some x
  | (k', o') :: r, xs, k, o, h, hm => by
    simp only [pickX] at h
    split at h
    · rename_i x0 h0
      split at h
      · rename_i y ys h1 h2
        rcases List.mem_cons.1 hm with e | hm
        · cases e; exact ⟨x0, y, h0, h1⟩
        · exact pickX_all h2 hm
      · cases h
    · cases h
theorem rlObs_go {m : List (Nat × Nat)} (hinj : ∀ a a' b, look m a = some b → look m a' = some b → a = a') : ∀ {ys ys' : List (Nat × Ob)} {o : Nat} {y' : Ob}, rlObs m ys = some ys' → go ys' o = some y' → ∃ k y, look m k = some o ∧ go ys k = some y ∧ rlOb (rlC m) y = some y'
  | [], ys', o, y', h, hg => by simp [rlObs] at h; subst h; cases hg
  | (k, x) :: r, ys', o, y', h, hg => by
    simp only [rlObs] at h
    split at h
    · rename_i o1 y1 ys1 h1 h2 h3
      simp at h; subst h
      by_cases e : o1 = o
      · subst e; rw [go_same] at hg; cases hg; exact ⟨k, x, h1, go_same _ _ _, h2⟩
      · rw [go_other _ _ e] at hg
        obtain ⟨k', y, a1, a2, a3⟩ := rlObs_go hinj h3 hg
        have hne : k ≠ k' := fun e' => by subst e'; rw [h1] at a1; cases a1; exact e rfl
        exact ⟨k', y, a1, by rw [go_other _ _ hne]; exact a2, a3⟩
    · cases h
theorem go_app {a b : List (Nat × Ob)} {o : Nat} {x : Ob} (h : go (a ++ b) o = some x) : go a o = some x ∨ (go a o = none ∧ go b o = some x) := by
  induction a with
  | nil => exact .inr ⟨rfl, h⟩
  | cons p r ih =>
    obtain ⟨k, v⟩ := p
    by_cases e : k = o
    · subst e; rw [List.cons_append, go_same] at h; rw [go_same]; exact .inl h
    · rw [List.cons_append, go_other _ _ e] at h; rw [go_other _ _ e]; exact ih h
theorem rlObs_some {m : List (Nat × Nat)} : ∀ {ys ys' : List (Nat × Ob)} {k : Nat} {y : Ob}, rlObs m ys = some ys' → go ys k = some y → ∃ o, look m k = some o ∧ go ys' o ≠ none
  | (k', x) :: r, ys', k, y, h, hg => by
    simp only [rlObs] at h
    split at h
    · rename_i o1 y1 ys1 h1 h2 h3
      simp at h; subst h
      by_cases e : k' = k
      · subst e; exact ⟨o1, h1, by rw [go_same]; simp⟩
      · rw [go_other _ _ e] at hg
        obtain ⟨o, a1, a2⟩ := rlObs_some h3 hg
        refine ⟨o, a1, ?_⟩
        by_cases e2 : o1 = o
        · subst e2; rw [go_same]; simp
        · rw [go_other _ _ e2]; exact a2
    · cases h
/-- A relabelled thing, in an environment that agrees. -/
theorem rlOb_ok {E E' : Env} {w : World} {f : C → Option C} {l o : Nat} {x y : Ob} (h : rlOb f x = some y) (hf : ∀ c c' u, f c = some c' → cvC E w c u → cvC E' w c' u) (hr : ∀ b c, ¬ (E.n l ∧ ∃ t sz els g, x = .rown t sz els g) → E.r l = some (b, c) → E'.r o = some (b, c)) (hn : E'.n o ↔ E.n l)
    (hH : ∀ g b, E.H g b → E'.H g b) (hF : ∀ b c, ¬ (E.n l ∧ ∃ t sz els g, x = .rown t sz els g) → E.r l = some (b, c) → ¬ E.F b → ¬ E'.F b) (hx : relOb E w l x) : relOb E' w o y := by
  cases x with
  | var t cs =>
    simp only [rlOb] at h
    split at h
    · rename_i h1; cases h
      obtain ⟨b, c, arr, k1, k2, k3, k4⟩ := hx
      have hno : ¬ (E.n l ∧ ∃ t' sz els g, Ob.var t cs = .rown t' sz els g) := fun ⟨_, _, _, _, _, h⟩ => by cases h
      exact ⟨b, c, arr, hr b c hno k1, k2, mapCs_ok hf h1 k3, hF b c hno k1 k4⟩
    · cases h
  | row t sz els g mm =>
    cases mm with
    | false => cases h
    | true =>
      cases h
      obtain ⟨b, c, arr, k1, k2, k3, k4, k5, k6, k7, k8, _⟩ := hx
      have hno : ¬ (E.n l ∧ ∃ t' sz' els' g', Ob.row t sz els g true = .rown t' sz' els' g') := fun ⟨_, _, _, _, _, h⟩ => by cases h
      exact ⟨b, c, arr, hr b c hno k1, k2, k3, k4, k5, k6, rdLL_mono' (fun _ _ => rfl) (hH g) rfl _ _ k7, fun _ => hF b c hno k1 (k8 rfl), fun h => by cases h⟩
  | rown t sz els g =>
    cases h
    rcases hx with ⟨h1, h2⟩ | ⟨h1, b, c, arr, k1, k2, k3, k4, k5, k6, k7, k8⟩
    · exact .inl ⟨hn.2 h1, h2⟩
    · exact .inr ⟨fun k => h1 (hn.1 k), b, c, arr, hr b c (fun k => h1 k.1) k1, k2, k3, k4, k5, k6, rdLL_mono' (fun _ _ => rfl) (hH g) rfl _ _ k7, hF b c (fun k => h1 k.1) k1 k8⟩
  | abs j z => cases h
/-- A rule where labels are old. -/
def ltF (n : Nat) (f : C → Option C) (c : C) : Option C := bif c.lt n then f c else some .any
theorem mapCs_lt {n : Nat} {f : C → Option C} : ∀ {cs : List C}, cs.all (C.lt n) = true → mapCs (ltF n f) cs = mapCs f cs
  | [], _ => rfl
  | c :: cs, h => by
    simp only [List.all_cons, Bool.and_eq_true] at h
    simp only [mapCs, mapCs_lt h.2, ltF, h.1, cond_true]
theorem mapV_lt {n : Nat} {f : C → Option C} {v : V} (h : v.lt n = true) : mapV (ltF n f) v = mapV f v := by
  cases v with
  | c c => have h : c.lt n = true := h; simp only [mapV, ltF, h, cond_true]
  | agg cs => simp only [mapV, mapCs_lt (n := n) (cs := cs) h]
theorem mapVs_lt {n : Nat} {f : C → Option C} : ∀ {cs : List V}, cs.all (V.lt n) = true → mapVs (ltF n f) cs = mapVs f cs
  | [], _ => rfl
  | c :: cs, h => by
    simp only [List.all_cons, Bool.and_eq_true] at h
    simp only [mapVs, mapVs_lt h.2, mapV_lt h.1]
theorem mapT_lt {n : Nat} {f : C → Option C} {t : T} (h : t.lt n = true) : mapT (ltF n f) t = mapT f t := by
  cases t with
  | v v => simp only [mapT, mapV_lt (n := n) (v := v) h]
  | tup vs => simp only [mapT, mapVs_lt (n := n) (cs := vs) h]
  | any => rfl
theorem mapS_lt {n : Nat} {f : C → Option C} : ∀ {sl : List (Nat × T)}, slLt n sl = true → mapS (ltF n f) sl = mapS f sl
  | [], _ => rfl
  | (k, t) :: r, h => by
    simp only [slLt, Bool.and_eq_true] at h
    simp only [mapS, mapT_lt h.1, mapS_lt h.2]
open Classical in
/-- A call that writes things handed to it. -/
theorem o_callV {P : Program} {N : Nat} {d : Tmp} {ty : TypeId} {ps : String} {af : Array Edge} {gd : Option (Nat × Bool)} {f : FuncId} {args : List Operand} {tys : Array TypeId} {sl sl' : List (Nat × T)} {ob ob' : List (Nat × Ob)} {nx n : Nat} {ts ts' : List T} {xs ys ys' nw nw' : List (Nat × Ob)} {out out' : T} {m nl : List (Nat × Nat)}
    (hF : FnV P f xs ts' ys out nw) (ht : opTs sl args = some ts) (ha : mapTs (agC ob (inv m)) ts = some ts') (hx : pickX (inv m) ob m = some xs) (hm : mOK m nl nx n ys = true) (hs : mapS (kvC (inv m)) sl = some sl') (hb : mapO (kvC (inv m)) (fun _ x => some x) ob = some ob')
    (hy : rlObs (m ++ nl) ys = some ys') (hw : rlObs (m ++ nl) nw = some nw') (ho : mapT (rlC (m ++ nl)) out = some out') (hsl : slLt nx sl = true) (hol : obLtC nx ob = true) (hN : nlt d N = true) :
    AWO P N ⟨some d, .call ⟨.value (.func f), args.toArray, tys⟩, ty, ps, af, gd⟩ ⟨sl, ob, nx⟩ ⟨(d, out') :: sl', nw' ++ (ys' ++ ob'), n⟩ := by
  intro cx E a w hR
  have ok := hR.ok
  obtain ⟨t1, t2⟩ := opTs_ok ht
  simp only [mOK, Bool.and_eq_true, List.all_eq_true, Bool.or_eq_true, Bool.not_eq_true'] at hm
  obtain ⟨⟨⟨hk1, hk2⟩, hm1, hc⟩, hu, hm2⟩ := hm
  have nd1 := nodupO_ok hk1
  have nd2 := nodupO_ok hk2
  obtain ⟨hnn, hcu⟩ := cntUp_ok hc
  -- the two ways of the map
  have ndm1 : (m.map (·.1)).Nodup := by rw [List.map_append] at nd1; exact (List.nodup_append.1 nd1).1
  have ndm2 : (m.map (·.2)).Nodup := by rw [List.map_append] at nd2; exact (List.nodup_append.1 nd2).1
  have inv_of : ∀ {k o}, look m k = some o → look (inv m) o = some k := fun h => mem_look (by rw [inv_keys]; exact ndm2) (mem_inv.2 (look_mem h))
  have of_inv : ∀ {k o}, look (inv m) o = some k → look m k = some o := fun h => mem_look ndm1 (mem_inv.1 (look_mem h))
  have inv_of' : ∀ {k o}, look (m ++ nl) k = some o → look (inv (m ++ nl)) o = some k := fun h => mem_look (by rw [inv_keys]; exact nd2) (mem_inv.2 (look_mem h))
  have of_inv' : ∀ {k o}, look (inv (m ++ nl)) o = some k → look (m ++ nl) k = some o := fun h => mem_look nd1 (mem_inv.1 (look_mem h))
  have look_m : ∀ {k o}, look m k = some o → look (m ++ nl) k = some o := fun h => mem_look nd1 (List.mem_append.2 (.inl (look_mem h)))
  have split : ∀ {k o}, look (m ++ nl) k = some o → look m k = some o ∨ (k, o) ∈ nl := fun h => (List.mem_append.1 (look_mem h)).imp (mem_look ndm1) id
  have linj : ∀ a a' b, look m a = some b → look m a' = some b → a = a' := fun a a' b h h' => by have h := inv_of h; have h' := inv_of h'; rw [h] at h'; cases h'; rfl
  have linj' : ∀ a a' b, look (m ++ nl) a = some b → look (m ++ nl) a' = some b → a = a' := fun a a' b h h' => by have h := inv_of' h; have h' := inv_of' h'; rw [h] at h'; cases h'; rfl
  have mrs : ∀ {k o}, look m k = some o → rsv k = true ∧ o < nx := fun h => ⟨(hm1 _ (look_mem h)).1, blt_lt (hm1 _ (look_mem h)).2⟩
  -- the callee's environment
  have pick : ∀ {k o}, look m k = some o → ∃ x0 x, go ob o = some x0 ∧ rlOb (rlB ob (inv m)) x0 = some x := fun h => pickX_all hx (look_mem h)
  let nilL : Nat → Prop := fun o => E.n o ∧ ∃ t sz els g, go ob o = some (.rown t sz els g)
  let Ec : Env := { r := fun l => match look m l with | some o => if nilL o then none else E.r o | none => none, F := E.F, G := E.G, n := fun l => ∃ o, look m l = some o ∧ E.n o }
  have hEc : ∀ l p, Ec.r l = some p → ∃ o, look m l = some o ∧ ¬ nilL o ∧ E.r o = some p := by
    intro l p h
    have h : (match look m l with | some o => if nilL o then none else E.r o | none => none) = some p := h
    split at h
    · rename_i o h1
      split at h
      · cases h
      · exact ⟨o, h1, by assumption, h⟩
    · cases h
  have hEc2 : ∀ {l o p}, look m l = some o → ¬ nilL o → E.r o = some p → Ec.r l = some p := by
    intro l o p h1 h2 h3
    show (match look m l with | some o => if nilL o then none else E.r o | none => none) = some p
    rw [h1]; simp only [h2, if_false]; exact h3
  have hEn : ∀ {l o}, look m l = some o → (Ec.n l ↔ E.n o) := fun h => ⟨fun ⟨o', h1, h2⟩ => by rw [h] at h1; cases h1; exact h2, fun h2 => ⟨_, h, h2⟩⟩
  have nF : ∀ {l o b c}, look m l = some o → ¬ nilL o → E.r o = some (b, c) → ¬ E.F b := by
    intro l o b c h1 h2 h3
    obtain ⟨x0, x, a1, a2⟩ := pick h1
    have hx0 := hR.obs o x0 a1
    cases x0 with
    | var t cs => obtain ⟨b', c', arr, k1, k2, k3, k4⟩ := hx0; rw [h3] at k1; cases k1; exact k4
    | row t sz els g mm =>
      cases mm with
      | false => cases a2
      | true => obtain ⟨b', c', arr, k1, k2, k3, k4, k5, k6, k7, k8, _⟩ := hx0; rw [h3] at k1; cases k1; exact k8 rfl
    | rown t sz els g =>
      rcases hx0 with ⟨k0, _⟩ | ⟨_, b', c', arr, k1, k2, k3, k4, k5, k6, k7, k8⟩
      · exact absurd ⟨k0, _, _, _, _, a1⟩ h2
      · rw [h3] at k1; cases k1; exact k8
    | abs j z => cases a2
  have hVI : VIn Ec w := ⟨ok.fb, ok.gf, fun l b c h => by
      obtain ⟨o, h1, h2, h3⟩ := hEc l _ h
      exact ⟨(ok.rb o b c h3).1, (mrs h1).1, nF h1 h2 h3⟩, fun l l' b c c' h h' => by
      obtain ⟨o, h1, h2, h3⟩ := hEc l _ h
      obtain ⟨o', h1', h2', h3'⟩ := hEc l' _ h'
      have := ok.inj _ _ _ _ _ h3 h3'
      subst this
      exact linj _ _ _ h1 h1', fun _ _ h => h, fun _ h => h⟩
  have hcB : ∀ c c' u, rlB ob (inv m) c = some c' → cvC E w c u → cvC Ec w c' u := by
    intro c c' u h hc
    cases c with
    | w l n =>
      simp only [rlB] at h
      split at h
      · rename_i k _ _ _ _ _ h1 h2; cases h
        obtain ⟨b, c, h3, h4⟩ := hc
        exact ⟨b, c, hEc2 (of_inv h1) (fun ⟨_, _, _, _, _, h⟩ => by rw [h2] at h; cases h) h3, h4⟩
      · cases h
    | wn l n =>
      simp only [rlB] at h
      split at h
      · rename_i k _ _ _ _ h1 h2; cases h
        rcases hc with ⟨h3, h4⟩ | ⟨h3, b, c, h4, h5⟩
        · exact .inl ⟨(hEn (of_inv h1)).2 h3, h4⟩
        · exact .inr ⟨fun h => h3 ((hEn (of_inv h1)).1 h), b, c, hEc2 (of_inv h1) (fun h => h3 h.1) h4, h5⟩
      · cases h
    | p l n =>
      simp only [rlB] at h
      split at h
      · rename_i k _ _ h1 h2; cases h
        obtain ⟨b, c, h3, h4⟩ := hc
        exact ⟨b, c, hEc2 (of_inv h1) (fun ⟨_, _, _, _, _, h⟩ => by rw [h2] at h; cases h) h3, h4⟩
      · cases h
    | d g x => simp only [rlB] at h; cases h; cases g <;> exact hc
    | nil => simp only [rlB] at h; cases h; exact hc
    | any => simp only [rlB] at h; cases h; trivial
    | fn f => simp only [rlB] at h; cases h; exact hc
    | _ => simp only [rlB] at h; cases h
  have hcA : ∀ c c' u, agC ob (inv m) c = some c' → cvC E w c u → cvC Ec w c' u := by
    intro c c' u h hc
    cases c with
    | d g x => simp only [agC] at h; cases h; exact rdD_mono (fun _ _ => rfl) (fun b hb => by cases g; exact hb; exact ok.gf b hb) x u hc
    | _ => simp only [agC] at h; exact hcB _ _ _ h hc
  have hX : ∀ l x, go xs l = some x → relOb Ec w l x := by
    intro l x h
    obtain ⟨o, x0, a1, a2, a3⟩ := pickX_go hx h
    exact rlOb_ok a3 hcB (fun b c h1 h2 => hEc2 a1 (fun ⟨k1, t, sz, els, g, k2⟩ => h1 ⟨k1, t, sz, els, g, by rw [a2] at k2; cases k2; rfl⟩) h2) (hEn a1) (fun g b h => by cases g <;> exact h) (fun b c h1 h2 h3 => h3) (hR.obs o x0 a2)
  have hA := mapTs_ok (a := a) hcA ha t1 (fun x t hm => by have := hR.op x; rwa [Lk.mem t2 x t hm] at this)
  have hc := hF.calls Ec w (args.map a.eval).toArray hVI ok.tabs (fun k hk l c h => by
    obtain ⟨o, _, _, h3⟩ := hEc l _ h; exact ok.ntab h3 k hk rfl) hX (by simpa using hA)
  have hent := hF.enters (args.map a.eval).toArray w
  unfold Oper.wp
  have hrun : (execOp a.eval ⟨some d, .call ⟨.value (.func f), args.toArray, tys⟩, ty, ps, af, gd⟩).run P w = .ok (.enter f (args.map a.eval).toArray) w := by
    simp only [execOp, resolve, Act.eval, Deferred.ofValue, Sem.run_bind, Sem.run_pure, Result.andThen_ok, invoke]
    simpa using hent
  rw [hrun, Oper.upon_enter]
  refine hc.mono ?_
  rintro e w' ⟨v, E', rfl, vo, hv, hY, hNW⟩
  have hsz := vo.past.size
  -- behind the call
  let E2 : Env := { r := fun l => match look (inv (m ++ nl)) l with | some k => E'.r k | none => E.r l, F := E'.F, G := E'.G, T := E.T, Z := E.Z, n := fun l => match look (inv (m ++ nl)) l with | some k => E'.n k | none => E.n l }
  have e2r : ∀ {k o}, look (m ++ nl) k = some o → E2.r o = E'.r k := fun h => by show (match look (inv (m ++ nl)) _ with | some k => E'.r k | none => E.r _) = _; rw [inv_of' h]
  have e2n : ∀ {k o}, look (m ++ nl) k = some o → (E2.n o ↔ E'.n k) := fun h => by show (match look (inv (m ++ nl)) _ with | some k => E'.n k | none => E.n _) ↔ _; rw [inv_of' h]
  have e2r0 : ∀ {o}, look (inv (m ++ nl)) o = none → E2.r o = E.r o := fun h => by show (match look (inv (m ++ nl)) _ with | some k => E'.r k | none => E.r _) = _; rw [h]
  have e2n0 : ∀ {o}, look (inv (m ++ nl)) o = none → (E2.n o ↔ E.n o) := fun h => by show (match look (inv (m ++ nl)) _ with | some k => E'.n k | none => E.n _) ↔ _; rw [h]
  have e2c : ∀ l b c, E2.r l = some (b, c) → (∃ k, look (m ++ nl) k = some l ∧ E'.r k = some (b, c)) ∨ (look (inv (m ++ nl)) l = none ∧ E.r l = some (b, c)) := by
    intro l b c h
    cases h1 : look (inv (m ++ nl)) l with
    | some k => exact .inl ⟨k, of_inv' h1, by rw [← e2r (of_inv' h1)]; exact h⟩
    | none => exact .inr ⟨rfl, by rw [← e2r0 h1]; exact h⟩
  have oldB : ∀ {k b c}, E'.r k = some (b, c) → w.heap.size ≤ b ∨ ∃ l o c', look m l = some o ∧ ¬ nilL o ∧ E.r o = some (b, c') ∧ rsv k = true := by
    intro k b c h
    rcases (vo.rb k b c h).2 with h | ⟨⟨l, c', h⟩, h2⟩
    · exact .inl h
    · obtain ⟨o, h3, h4, h5⟩ := hEc l _ h; exact .inr ⟨l, o, c', h3, h4, h5, h2⟩
  have none_of : ∀ {o}, (∀ k, look m k ≠ some o) → o < nx → look (inv (m ++ nl)) o = none := by
    intro o h1 h2
    cases h : look (inv (m ++ nl)) o with
    | none => rfl
    | some k =>
      rcases split (of_inv' h) with h3 | h3
      · exact absurd h3 (h1 k)
      · have := (hcu _ _ h3).1; omega
  have hnot : ∀ {o}, look (inv (m ++ nl)) o = none → ∀ k, look m k ≠ some o := fun h k h1 => by rw [inv_of' (look_m h1)] at h; cases h
  have hheap : ∀ k, k < w.heap.size → (∀ l o c, look m l = some o → ¬ nilL o → E.r o ≠ some (k, c)) → w'.heap[k]? = w.heap[k]? := fun k hk h => vo.past.block k hk (fun ⟨l, c, h1⟩ => by
    obtain ⟨o, h2, h3, h4⟩ := hEc l _ h1; exact h l o c h2 h3 h4)
  have hFh : ∀ b, E.F b → w'.heap[b]? = w.heap[b]? := fun b hb => hheap b (ok.fb b hb) (fun l o c h1 h2 h3 => nF h1 h2 h3 hb)
  have hHh : ∀ g b, E.H g b → w'.heap[b]? = w.heap[b]? := fun g b hb => hFh b (by cases g; exact hb; exact ok.gf b hb)
  have hTh : ∀ l b, E.T l b → w'.heap[b]? = w.heap[b]? := fun l b hb => hheap b (ok.sf.tb l b hb).1.1 (fun _ o c _ _ h => (ok.sf.tb l b hb).2.2.1 o c h)
  have hZh : ∀ b, cx.Z b → w'.heap[b]? = w.heap[b]? := fun b hb => hheap b (ok.sf.zc b hb).1.2.1 (fun _ o c _ _ h => (ok.sf.zc b hb).2.2.1 o c h)
  have okE : EnvOK cx E2 w' := by
    refine ⟨vo.fb, vo.gf, fun b h => ?_, fun l b c h => ?_, fun l l' b c c' h h' => ?_, by rw [vo.past.os]; exact ok.os, by rw [vo.past.tape]; exact ok.tape, by rw [vo.past.output]; exact ok.output, Nat.le_trans ok.size hsz, fun b h hW => ?_, fun l x hv h => ?_, fun b h => ?_, fun b h h' => ?_, ⟨fun l b h => ?_, ok.sf.tt, fun b h => ?_, fun b h => ?_, ok.sf.ze⟩⟩
    · rcases vo.g0 b h with h | h
      · exact .inl (Nat.le_trans ok.size h)
      · exact ok.gn b h
    · rcases e2c l b c h with ⟨k, h1, h2⟩ | ⟨h1, h2⟩
      · refine ⟨(vo.rb k b c h2).1, ?_⟩
        rcases oldB h2 with h3 | ⟨l', o', c', h3, h4, h5, h6⟩
        · exact .inl (Nat.le_trans ok.size h3)
        · rcases split h1 with h7 | h7
          · rcases (ok.rb o' b c' h5).2 with h8 | ⟨h8, h9⟩
            · exact .inl h8
            · refine .inr ⟨h8, ?_⟩
              cases hp : rsp k with
              | true =>
                have h10 := vo.pin k _ hp h2
                obtain ⟨o2, h11, _, h13⟩ := hEc k _ h10
                rw [h7] at h11; cases h11
                have := ok.inj _ _ _ _ _ h13 h5
                rw [this]; exact h9
              | false =>
                rcases hu with hu | hu
                · rcases hu _ (look_mem h7) with h10 | h10
                  · simp only at h10; rw [hp] at h10; cases h10
                  · exact h10
                · rcases hu _ (look_mem h3) with h10 | h10
                  · have h11 : rsp l' = true := h10
                    have h12 := inv_of h3
                    exfalso
                    have hy2 : (go ys l').isSome = true := (hm2 _ (look_mem h3)).2.2
                    have hv2 : hasV ys l' = true := ((hm2 _ (look_mem h3)).2.1).resolve_left (by simp [h11])
                    unfold hasV at hv2
                    split at hv2
                    · rename_i t cs hg
                      obtain ⟨b1, c1, arr, q1, _⟩ := hY _ _ hg
                      have q2 := vo.pin l' _ h11 q1
                      obtain ⟨o2, q3, _, q4⟩ := hEc l' _ q2
                      rw [h3] at q3; cases q3
                      rw [h5] at q4; cases q4
                      have := vo.inj _ _ _ _ _ q1 h2
                      subst this
                      rw [h11] at hp; cases hp
                    · cases hv2
                  · simp only at h10; rw [h9] at h10; cases h10
          · exfalso
            have := (hcu _ _ h7).2.2.2
            rw [this] at h6; cases h6
      · have := ok.rb l b c h2; exact ⟨Nat.lt_of_lt_of_le this.1 hsz, this.2⟩
    · rcases e2c l b c h with ⟨k, h1, h2⟩ | ⟨h1, h2⟩ <;> rcases e2c l' b c' h' with ⟨k', h1', h2'⟩ | ⟨h1', h2'⟩
      · have := vo.inj _ _ _ _ _ h2 h2'
        subst this
        rw [h1] at h1'; cases h1'; rfl
      · exfalso
        rcases oldB h2 with h3 | ⟨l2, o2, c2, h3, h4, h5, _⟩
        · have := (ok.rb _ _ _ h2').1; omega
        · have := ok.inj _ _ _ _ _ h5 h2'
          subst this
          exact hnot h1' _ h3
      · exfalso
        rcases oldB h2' with h3 | ⟨l2, o2, c2, h3, h4, h5, _⟩
        · have := (ok.rb _ _ _ h2).1; omega
        · have := ok.inj _ _ _ _ _ h5 h2
          subst this
          exact hnot h1 _ h3
      · exact ok.inj _ _ _ _ _ h2 h2'
    · rw [hheap b (Nat.lt_of_lt_of_le h ok.size) (fun l o c h1 h2 h3 => by
        rcases (ok.rb o b c h3).2 with h4 | h4
        · omega
        · exact hW h4.1)]
      exact ok.block b h hW
    · obtain ⟨b, c⟩ := x
      rcases e2c l b c h with ⟨k, h1, h2⟩ | ⟨_, h2⟩
      · rcases split h1 with h7 | h7
        · have hk : rsp k = true := ((hm2 _ (look_mem h7)).1).resolve_left (by simp [hv])
          obtain ⟨o2, q3, _, q4⟩ := hEc k _ (vo.pin k _ hk h2)
          rw [h7] at q3; cases q3
          exact ok.pin l _ hv q4
        · have := (hcu _ _ h7).2.2.1
          have h9 := rsp_rsv hv
          rw [this] at h9; cases h9
      · exact ok.pin l _ hv h2
    · rcases vo.f0 b h with h | h
      · exact ok.ff b h
      · exact .inr (Nat.le_trans ok.size h.1)
    · rcases vo.f0 b h with h | h
      · exact (ok.gc b h h').of_eq (hFh b h)
      · exact h.2
    · obtain ⟨k1, k2, k3, k4⟩ := ok.sf.tb l b h
      refine ⟨⟨by omega, k1.2⟩, fun hf => ?_, fun o c ho => ?_, k4.of_eq (hTh l b h)⟩
      · rcases vo.f0 b hf with hf | hf
        · exact k2 hf
        · omega
      · rcases e2c o b c ho with ⟨k, _, h2⟩ | ⟨_, h2⟩
        · rcases oldB h2 with h3 | ⟨l2, o2, c2, h3, h4, h5, _⟩
          · omega
          · exact k3 _ _ h5
        · exact k3 _ _ h2
    · obtain ⟨k1, k2, k3, k4⟩ := ok.sf.zc b h
      refine ⟨⟨k1.1, by omega, k1.2.2⟩, fun hf => ?_, fun o c ho => ?_, k4.of_eq (hZh b h)⟩
      · rcases vo.f0 b hf with hf | hf
        · exact k2 hf
        · omega
      · rcases e2c o b c ho with ⟨k, _, h2⟩ | ⟨_, h2⟩
        · rcases oldB h2 with h3 | ⟨l2, o2, c2, h3, h4, h5, _⟩
          · omega
          · exact k3 _ _ h5
        · exact k3 _ _ h2
    · exact (ok.sf.zs b h).trans (.of_eq (hZh b h))
  have hHm : ∀ g b, E.H g b → E2.H g b := fun g b h => by cases g; exact vo.F b h; exact vo.G b h
  have hkv : ∀ c c' u, c.lt nx = true → kvC (inv m) c = some c' → cvC E w c u → cvC E2 w' c' u := by
    intro c c' u hl h hc
    have hnone : ∀ {l}, look (inv m) l = none → l < nx → look (inv (m ++ nl)) l = none := fun h1 h2 => none_of (fun k h3 => by rw [inv_of h3] at h1; cases h1) h2
    cases c with
    | d g x => simp only [kvC] at h; cases h; exact rdD_mono (hHh g) (hHm g) x u hc
    | w l n =>
      simp only [kvC] at h
      split at h
      · cases h; trivial
      · rename_i h1; cases h
        obtain ⟨b, c, h3, h4⟩ := hc
        exact ⟨b, c, by rw [e2r0 (hnone h1 (blt_lt hl))]; exact h3, h4⟩
    | wn l n =>
      simp only [kvC] at h
      split at h
      · cases h; trivial
      · rename_i h1; cases h
        have h2 := hnone h1 (blt_lt hl)
        rcases hc with ⟨h3, h4⟩ | ⟨h3, b, c, h4, h5⟩
        · exact .inl ⟨(e2n0 h2).2 h3, h4⟩
        · exact .inr ⟨fun h => h3 ((e2n0 h2).1 h), b, c, by rw [e2r0 h2]; exact h4, h5⟩
    | s l a1 a2 a3 =>
      simp only [kvC] at h
      split at h
      · cases h; trivial
      · rename_i h1; cases h
        obtain ⟨A, c, b, k, h3, h4⟩ := hc
        exact ⟨A, c, b, k, by rw [e2r0 (hnone h1 (blt_lt hl))]; exact h3, h4⟩
    | e l a1 a2 a3 =>
      simp only [kvC] at h
      split at h
      · cases h; trivial
      · rename_i h1; cases h
        obtain ⟨b, c, h3, h4⟩ := hc
        exact ⟨b, c, by rw [e2r0 (hnone h1 (blt_lt hl))]; exact h3, h4⟩
    | p l j =>
      simp only [kvC] at h
      split at h
      · rename_i k h1
        split at h
        · rename_i hp
          cases h
          obtain ⟨b, c, h3, h4⟩ := hc
          have h5 := of_inv h1
          have hv2 : hasV ys k = true := ((hm2 _ (look_mem h5)).2.1).resolve_left (by simp [hp])
          unfold hasV at hv2
          split at hv2
          · rename_i t cs hg
            obtain ⟨b1, c1, arr, q1, _⟩ := hY _ _ hg
            obtain ⟨o2, q3, _, q4⟩ := hEc k _ (vo.pin k _ hp q1)
            rw [h5] at q3; cases q3
            rw [h3] at q4; cases q4
            exact ⟨b, c, by rw [e2r (look_m h5)]; exact q1, h4⟩
          · cases hv2
        · cases h; trivial
      · rename_i h1; cases h
        obtain ⟨b, c, h3, h4⟩ := hc
        exact ⟨b, c, by rw [e2r0 (hnone h1 (blt_lt hl))]; exact h3, h4⟩
    | q g y j =>
      simp only [kvC] at h; cases h
      obtain ⟨b, k, h1, h2, h3⟩ := hc
      exact ⟨b, k, h1, hHm g b h2, rdL_mono (hHh g) (hHm g) y b k h2 h3⟩
    | fn f => simp only [kvC] at h; cases h; exact hc
    | nil => simp only [kvC] at h; cases h; exact hc
    | any => simp only [kvC] at h; cases h; trivial
    | r l x => simp only [kvC] at h; cases h; exact rdD_mono (fun b hb => hTh l b hb) (fun b hb => hb) x u hc
    | z x => simp only [kvC] at h; cases h; exact rsD_mono (fun b hb => .of_eq (hZh b (ok.sf.ze b hb))) (fun b hb => hb) x u hc
    | zq x j =>
      simp only [kvC] at h; cases h
      obtain ⟨b, k, h1, h2, h3⟩ := hc
      exact ⟨b, k, h1, h2, rsL_mono (fun b hb => .of_eq (hZh b (ok.sf.ze b hb))) (fun b hb => hb) x b k h2 h3⟩
  have hrl : ∀ c c' u, rlC (m ++ nl) c = some c' → cvC E' w' c u → cvC E2 w' c' u := by
    intro c c' u h hc
    cases c with
    | w l n =>
      simp only [rlC] at h
      split at h
      · rename_i k h1; cases h
        obtain ⟨b, c, h3, h4⟩ := hc
        exact ⟨b, c, by rw [e2r h1]; exact h3, h4⟩
      · cases h
    | wn l n =>
      simp only [rlC] at h
      split at h
      · rename_i k h1; cases h
        rcases hc with ⟨h3, h4⟩ | ⟨h3, b, c, h4, h5⟩
        · exact .inl ⟨(e2n h1).2 h3, h4⟩
        · exact .inr ⟨fun h => h3 ((e2n h1).1 h), b, c, by rw [e2r h1]; exact h4, h5⟩
      · cases h
    | p l n =>
      simp only [rlC] at h
      split at h
      · rename_i k h1; cases h
        obtain ⟨b, c, h3, h4⟩ := hc
        exact ⟨b, c, by rw [e2r h1]; exact h3, h4⟩
      · cases h
    | d g x => simp only [rlC] at h; cases h; cases g <;> exact hc
    | nil => simp only [rlC] at h; cases h; exact hc
    | any => simp only [rlC] at h; cases h; trivial
    | fn f => simp only [rlC] at h; cases h; exact hc
    | _ => simp only [rlC] at h; cases h
  have hrel : ∀ {k o : Nat} {y y' : Ob}, look (m ++ nl) k = some o → rlOb (rlC (m ++ nl)) y = some y' → relOb E' w' k y → relOb E2 w' o y' := fun h1 h2 h3 =>
    rlOb_ok h2 hrl (fun b c _ h => by rw [e2r h1]; exact h) (e2n h1) (fun g b h => by cases g <;> exact h) (fun b c _ _ h => h) h3
  refine ⟨E2, okE, fun l x h => ?_, fun l y hl => ?_, fun k => ?_, hR.dfr, by simpa [Act.put] using hR.size, fun l b h => Nat.lt_of_lt_of_le (hR.td l b h) hnn⟩
  · obtain ⟨b, c⟩ := x
    rcases e2c l b c h with ⟨k, h1, _⟩ | ⟨_, h2⟩
    · rcases split h1 with h3 | h3
      · exact Nat.lt_of_lt_of_le (mrs h3).2 hnn
      · exact (hcu _ _ h3).2.1
    · exact Nat.lt_of_lt_of_le (hR.dom l _ h2) hnn
  · rcases go_app hl with h | ⟨_, h⟩
    · obtain ⟨k, y0, h1, h2, h3⟩ := rlObs_go linj' hw h
      exact hrel h1 h3 (hNW _ _ h2)
    · rcases go_app h with h | ⟨h0, h⟩
      · obtain ⟨k, y0, h1, h2, h3⟩ := rlObs_go linj' hy h
        exact hrel h1 h3 (hY _ _ h2)
      · -- an object that was not handed in
        have hnm : ∀ k, look m k ≠ some l := fun k h1 => by
          have h2 := (hm2 _ (look_mem h1)).2.2
          cases h3 : go ys k with
          | none => rw [h3] at h2; cases h2
          | some y0 =>
            obtain ⟨o, h4, h5⟩ := rlObs_some hy h3
            rw [look_m h1] at h4; cases h4
            exact h5 h0
        have hno : ∀ b c, E.r l = some (b, c) → w'.heap[b]? = w.heap[b]? := fun b c hr => hheap b (ok.rb l b c hr).1 (fun l' o' c' h1 _ h3 => by
          have := ok.inj _ _ _ _ _ hr h3
          subst this
          exact hnm _ h1)
        have hFn : ∀ b c, E.r l = some (b, c) → ¬ E.F b → ¬ E2.F b := fun b c hr hn hf => (vo.f0 b hf).elim hn (fun h => by have := (ok.rb l b c hr).1; omega)
        rcases mapO_go hb h with ⟨t, cs, cs', g1, g2, rfl⟩ | ⟨x0, g1, g2, g3⟩
        · obtain ⟨hln, hxl⟩ := obLtC_go hol g1
          have e1 := e2r0 (none_of hnm hln)
          obtain ⟨b, c, arr, k1, k2, k3, k4⟩ := hR.obs l _ g1
          refine ⟨b, c, arr, by rw [e1]; exact k1, (hno b c k1).trans k2, ?_, hFn b c k1 k4⟩
          have key : ∀ (cs cs' : List C) (us : List Value), cs.all (C.lt nx) = true → mapCs (kvC (inv m)) cs = some cs' → CV E w cs us → CV E2 w' cs' us := by
            intro cs
            induction cs with
            | nil => intro cs' us _ h hc; simp [mapCs] at h; subst h; cases us with
              | nil => trivial
              | cons _ _ => exact hc.elim
            | cons c cs ih =>
              intro cs' us hl h hc
              simp only [List.all_cons, Bool.and_eq_true] at hl
              cases us with
              | nil => exact hc.elim
              | cons u us =>
                simp only [mapCs] at h
                split at h
                · rename_i h1 h2; simp at h; subst h; exact ⟨hkv _ _ _ hl.1 h1 hc.1, ih _ _ hl.2 h2 hc.2⟩
                · cases h
          exact key _ _ _ hxl g2 k3
        · cases g3
          obtain ⟨hln, hxl⟩ := obLtC_go hol g1
          have e1 := e2r0 (none_of hnm hln)
          have e3 := e2n0 (none_of hnm hln)
          have hx0 := hR.obs l _ g1
          cases y with
          | var t cs => exact absurd rfl (g2 t cs)
          | row t sz els g mm =>
            obtain ⟨b, c, arr, k1, k2, k3, k4, k5, k6, k7, k8, k9⟩ := hx0
            exact ⟨b, c, arr, by rw [e1]; exact k1, (hno b c k1).trans k2, k3, k4, k5, k6, rdLL_mono' (hHh g) (hHm g) (hno b c k1) _ _ k7, fun hm => hFn b c k1 (k8 hm), fun hm => ⟨hHm false b (k9 hm).1, fun hg => hHm true b ((k9 hm).2 hg)⟩⟩
          | rown t sz els g =>
            rcases hx0 with ⟨k1, k2⟩ | ⟨k0, b, c, arr, k1, k2, k3, k4, k5, k6, k7, k8⟩
            · exact .inl ⟨e3.2 k1, k2⟩
            · exact .inr ⟨fun h => k0 (e3.1 h), b, c, arr, by rw [e1]; exact k1, (hno b c k1).trans k2, k3, k4, k5, k6, rdLL_mono' (hHh g) (hHm g) (hno b c k1) _ _ k7, hFn b c k1 k8⟩
          | abs j z =>
            rcases hx0 with ⟨k1, k2⟩ | ⟨k0, b, c, k1, k2, k3⟩
            · exact .inl ⟨e3.2 k1, k2⟩
            · exact .inr ⟨fun h => k0 (e3.1 h), b, c, by rw [e1]; exact k1, z.st _ _ _ _ _ _ k2 (fun k hk => hk) (hno b c k1) (fun k hk => hTh j k hk), hFn b c k1 k3⟩
  · rw [getD_put (by rw [hR.size]; exact blt_lt hN)]
    by_cases hdk : d = k
    · subst hdk; rw [gt_same, if_pos rfl]; exact mapT_ok hrl ho hv
    · rw [gt_other _ _ hdk, if_neg hdk]
      rw [← mapS_lt hsl] at hs
      refine mapS_ok (fun c c' u h hc => ?_) hs (hR.sl k)
      unfold ltF at h
      cases hl : c.lt nx with
      | true => rw [hl] at h; exact hkv c c' u hl h hc
      | false => rw [hl] at h; cases h; trivial
theorem cwv {P : Program} {N : Nat} {d : Tmp} {ty : TypeId} {ps : String} {af : Array Edge} {gd : Option (Nat × Bool)} {f : FuncId} {args : List Operand} {tys : Array TypeId} {sl sl' : List (Nat × T)} {ob ob' ob1 ob2 : List (Nat × Ob)} {nx : Nat} {ts ts' : List T} {xs ys ys' nw nw' : List (Nat × Ob)} {out out' : T} (m nl : List (Nat × Nat)) (n : Nat)
    (hF : FnV P f xs ts' ys out nw) (ht : opTs sl args = some ts) (ha : mapTs (agC ob (inv m)) ts = some ts') (hx : pickX (inv m) ob m = some xs) (hm : mOK m nl nx n ys = true) (hs : mapS (kvC (inv m)) sl = some sl') (hb : mapO (kvC (inv m)) (fun _ x => some x) ob = some ob')
    (hy : rlObs (m ++ nl) ys = some ys') (hw : rlObs (m ++ nl) nw = some nw') (ho : mapT (rlC (m ++ nl)) out = some out') (hsl : slLt nx sl = true) (hol : obLtC nx ob = true) (hN : nlt d N = true) (h1 : apO ys' ob' = some ob1) (h2 : apO nw' ob1 = some ob2) :
    AWO P N ⟨some d, .call ⟨.value (.func f), args.toArray, tys⟩, ty, ps, af, gd⟩ ⟨sl, ob, nx⟩ ⟨(d, out') :: sl', ob2, n⟩ := by
  rw [apO_eq h2, apO_eq h1]
  exact o_callV hF ht ha hx hm hs hb hy hw ho hsl hol hN
end Go.AM
