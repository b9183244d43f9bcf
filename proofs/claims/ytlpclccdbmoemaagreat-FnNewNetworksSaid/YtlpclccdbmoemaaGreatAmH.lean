/-
  The abstract machine, part H: append, parts of slices, freezing.
-/
import Derived.Test.YtlpclccdbmoemaaGreatAmG
set_option linter.unusedVariables false
namespace Go.AM
open Go.RowKit

def C.has (o : Nat) : C → Bool
  | .w l _ | .s l _ _ _ | .p l _ | .e l _ _ _ | .wn l _ => Nat.beq l o
  | _ => false
def hasCs (o : Nat) : List C → Bool
  | [] => false
  | c :: cs => c.has o || hasCs o cs
def V.has (o : Nat) : V → Bool
  | .c x => x.has o
  | .agg cs => hasCs o cs
def hasVs (o : Nat) : List V → Bool
  | [] => false
  | c :: cs => c.has o || hasVs o cs
def T.has (o : Nat) : T → Bool
  | .v x => x.has o
  | .tup ts => hasVs o ts
  | .any => false
/-- Whatever names row o is forgotten. -/
def killS (o : Nat) : List (Nat × T) → Option (List (Nat × T))
  | [] => some []
  | (k, t) :: r => match killS o r, t.has o with
    | some r', true => some ((k, .any) :: r')
    | some r', false => some ((k, t) :: r')
    | none, _ => none
def killC (o : Nat) : List C → Option (List C)
  | [] => some []
  | c :: r => match killC o r, c.has o with
    | some r', true => some (.any :: r')
    | some r', false => some (c :: r')
    | none, _ => none
def killB (o : Nat) : List (Nat × Ob) → Option (List (Nat × Ob))
  | [] => some []
  | (k, .var t cs) :: r => match killB o r, killC o cs with
    | some r', some cs' => some ((k, .var t cs') :: r')
    | _, _ => none
  | (k, .row t sz els g m) :: r => match killB o r with
    | some r' => some ((k, .row t sz els g m) :: r')
    | none => none
  | (k, .rown t sz els g) :: r => match killB o r with
    | some r' => some ((k, .rown t sz els g) :: r')
    | none => none
  | (k, .abs l y) :: r => match killB o r with
    | some r' => some ((k, .abs l y) :: r')
    | none => none
theorem killS_gt {o : Nat} : ∀ {sl sl' : List (Nat × T)}, killS o sl = some sl' → ∀ k, gt sl' k = .any ∨ (gt sl' k = gt sl k ∧ (gt sl k).has o = false)
  | [], sl', h, k => by simp [killS] at h; subst h; exact .inl rfl
  | (j, t) :: r, sl', h, k => by
    simp only [killS] at h
    cases h1 : killS o r with
    | none => simp [h1] at h
    | some r' =>
      have ih := killS_gt h1 k
      cases h2 : t.has o with
      | true =>
        simp [h1, h2] at h; subst h
        by_cases hj : j = k
        · subst hj; rw [gt_same]; exact .inl rfl
        · rw [gt_other _ _ hj, gt_other _ _ hj]; exact ih
      | false =>
        simp [h1, h2] at h; subst h
        by_cases hj : j = k
        · subst hj; rw [gt_same, gt_same]; exact .inr ⟨rfl, h2⟩
        · rw [gt_other _ _ hj, gt_other _ _ hj]; exact ih

/-- The environment in which row o has another block. -/
def Env.upd (E : Env) (o b c : Nat) : Env := { E with r := fun l => if l = o then some (b, c) else E.r l }
/-- What is kept where only row o and what is new has turned, if it does not name o. -/
structure KeepsBut (o : Nat) (E : Env) (w : World) (E' : Env) (w' : World) : Prop where
  r : ∀ l x, l ≠ o → E.r l = some x → E'.r l = some x
  H : ∀ g b, E.H g b → E'.H g b
  heap : ∀ g b, E.H g b → w'.heap[b]? = w.heap[b]?
  T : ∀ l b, E.T l b → E'.T l b ∧ w'.heap[b]? = w.heap[b]?
  Z : ∀ b, E.Z b → E'.Z b ∧ SimB w w' b
  n : ∀ l, l ≠ o → (E'.n l ↔ E.n l)
/-- Regions and soft blocks, where only the block of an object turns. -/
theorem Soft.turn {cx : Cx} {E E' : Env} {w w' : World} (s : Soft cx E w) {o b c : Nat} (h0 : E.r o = some (b, c)) (hT : E'.T = E.T) (hZ : E'.Z = E.Z) (hF : ∀ b, E'.F b → E.F b ∨ w.heap.size ≤ b) (hr : ∀ o b c, E'.r o = some (b, c) → (∃ o' c', E.r o' = some (b, c')) ∨ w.heap.size ≤ b)
    (hs : w.heap.size ≤ w'.heap.size) (hh : ∀ k, k < w.heap.size → k ≠ b → w'.heap[k]? = w.heap[k]?) : Soft cx E' w' := by
  refine ⟨fun l k h => ?_, fun l l' k h h' => ?_, fun k h => ?_, fun k h => ?_, fun k h => s.ze k (hZ ▸ h)⟩
  · rw [hT] at h
    obtain ⟨⟨h1, h2⟩, h3, h4, h5⟩ := s.tb l k h
    refine ⟨⟨by omega, h2⟩, fun hf => ?_, fun o c ho => ?_, h5.of_eq (hh k h1 (fun e => by subst e; exact h4 o c h0))⟩
    · rcases hF k hf with k | k
      · exact h3 k
      · omega
    · rcases hr o k c ho with ⟨o', c', k⟩ | k
      · exact h4 o' c' k
      · omega
  · rw [hT] at h h'; exact s.tt l l' k h h'
  · obtain ⟨⟨h1, h2, h2'⟩, h3, h4, h5⟩ := s.zc k h
    refine ⟨⟨h1, by omega, h2'⟩, fun hf => ?_, fun o c ho => ?_, h5.of_eq (hh k h2 (fun e => by subst e; exact h4 o c h0))⟩
    · rcases hF k hf with k | k
      · exact h3 k
      · omega
    · rcases hr o k c ho with ⟨o', c', k⟩ | k
      · exact h4 o' c' k
      · omega
  · obtain ⟨⟨h1, h2, h2'⟩, h3, h4, h5⟩ := s.zc k h
    exact (s.zs k h).trans (.of_eq (hh k h2 (fun e => by subst e; exact h4 o c h0)))
theorem beqF {l o : Nat} (h : Nat.beq l o = false) : l ≠ o := fun e => by subst e; simp at h
theorem cvC_but {o : Nat} {E E' : Env} {w w' : World} (x : KeepsBut o E w E' w') : ∀ {c : C} {u : Value}, c.has o = false → cvC E w c u → cvC E' w' c u
  | .d g d, u, _, h => rdD_mono (x.heap g) (x.H g) d u h
  | .w l n, u, hl, ⟨b, c, h, hu⟩ => ⟨b, c, x.r _ _ (beqF hl) h, hu⟩
  | .s l sz off len, u, hl, ⟨A, c, b, k, h, hu⟩ => ⟨A, c, b, k, x.r _ _ (beqF hl) h, hu⟩
  | .p l k, u, hl, ⟨b, c, h, hu⟩ => ⟨b, c, x.r _ _ (beqF hl) h, hu⟩
  | .e l sz i j, u, hl, ⟨b, c, h, hu⟩ => ⟨b, c, x.r _ _ (beqF hl) h, hu⟩
  | .q g y j, u, _, ⟨b, k, hu, hb, h⟩ => ⟨b, k, hu, x.H g b hb, rdL_mono (x.heap g) (x.H g) y b k hb h⟩
  | .fn f, u, _, h => h
  | .nil, u, _, h => h
  | .any, u, _, _ => trivial
  | .r l d, u, _, h => rdD_mono (fun b hb => (x.T l b hb).2) (fun b hb => (x.T l b hb).1) d u h
  | .z d, u, _, h => rsD_mono (fun b hb => (x.Z b hb).2) (fun b hb => (x.Z b hb).1) d u h
  | .zq y j, u, _, ⟨b, k, hu, hb, h⟩ => ⟨b, k, hu, (x.Z b hb).1, rsL_mono (fun b hb => (x.Z b hb).2) (fun b hb => (x.Z b hb).1) y b k hb h⟩
  | .wn l n, u, hl, .inl ⟨h1, h2⟩ => .inl ⟨(x.n l (beqF hl)).2 h1, h2⟩
  | .wn l n, u, hl, .inr ⟨h1, b, c, h, hu⟩ => .inr ⟨fun k => h1 ((x.n l (beqF hl)).1 k), b, c, x.r _ _ (beqF hl) h, hu⟩
theorem CV_but {o : Nat} {E E' : Env} {w w' : World} (x : KeepsBut o E w E' w') : ∀ {cs : List C} {us : List Value}, hasCs o cs = false → CV E w cs us → CV E' w' cs us
  | [], [], _, _ => trivial
  | c :: cs, u :: us, hl, h => by
    simp only [hasCs, Bool.or_eq_false_iff] at hl
    exact ⟨cvC_but x hl.1 h.1, CV_but x hl.2 h.2⟩
  | [], _ :: _, _, h => h.elim
  | _ :: _, [], _, h => h.elim
theorem cvV_but {o : Nat} {E E' : Env} {w w' : World} (x : KeepsBut o E w E' w') {v : V} {u : Value} (hl : v.has o = false) (h : cvV E w v u) : cvV E' w' v u := by
  cases v with
  | c c => exact cvC_but x hl h
  | agg cs => obtain ⟨arr, hu, h⟩ := h; exact ⟨arr, hu, CV_but x hl h⟩
theorem VV_but {o : Nat} {E E' : Env} {w w' : World} (x : KeepsBut o E w E' w') : ∀ {cs : List V} {us : List Value}, hasVs o cs = false → VV E w cs us → VV E' w' cs us
  | [], [], _, _ => trivial
  | c :: cs, u :: us, hl, h => by
    simp only [hasVs, Bool.or_eq_false_iff] at hl
    exact ⟨cvV_but x hl.1 h.1, VV_but x hl.2 h.2⟩
  | [], _ :: _, _, h => h.elim
  | _ :: _, [], _, h => h.elim
theorem cvT_but {o : Nat} {E E' : Env} {w w' : World} (x : KeepsBut o E w E' w') {t : T} {u : Value} (hl : t.has o = false) (h : cvT E w t u) : cvT E' w' t u := by
  cases t with
  | v v => exact cvV_but x hl h
  | tup ts => obtain ⟨arr, hu, h⟩ := h; exact ⟨arr, hu, VV_but x hl h⟩
  | any => trivial
theorem killC_but {o : Nat} {E E' : Env} {w w' : World} (x : KeepsBut o E w E' w') : ∀ {cs cs' : List C} {us : List Value}, killC o cs = some cs' → CV E w cs us → CV E' w' cs' us
  | [], cs', us, h, hc => by simp [killC] at h; subst h; cases us with
    | nil => trivial
    | cons _ _ => exact hc.elim
  | c :: cs, cs', us, h, hc => by
    cases us with
    | nil => exact hc.elim
    | cons u us =>
      simp only [killC] at h
      cases h1 : killC o cs with
      | none => simp [h1] at h
      | some r =>
        cases h2 : c.has o with
        | true => simp [h1, h2] at h; subst h; exact ⟨trivial, killC_but x h1 hc.2⟩
        | false => simp [h1, h2] at h; subst h; exact ⟨cvC_but x h2 hc.1, killC_but x h1 hc.2⟩
theorem killB_go {o : Nat} : ∀ {ob ob' : List (Nat × Ob)}, killB o ob = some ob' → ∀ {l : Nat} {x : Ob}, go ob' l = some x →
    (∃ t cs cs', go ob l = some (.var t cs) ∧ killC o cs = some cs' ∧ x = .var t cs') ∨ (∃ t sz els g m, go ob l = some (.row t sz els g m) ∧ x = .row t sz els g m) ∨ (∃ t sz els g, go ob l = some (.rown t sz els g) ∧ x = .rown t sz els g) ∨ (∃ k y, go ob l = some (.abs k y) ∧ x = .abs k y)
  | [], ob', h, l, x, hl => by simp [killB] at h; subst h; cases hl
  | (k, .var t cs) :: r, ob', h, l, x, hl => by
    simp only [killB] at h
    cases h1 : killB o r with
    | none => simp [h1] at h
    | some r' =>
      cases h2 : killC o cs with
      | none => simp [h1, h2] at h
      | some cs' =>
        simp [h1, h2] at h; subst h
        by_cases hk : k = l
        · subst hk; rw [go_same] at hl ⊢; cases hl; exact .inl ⟨t, cs, cs', rfl, h2, rfl⟩
        · rw [go_other _ _ hk] at hl ⊢; exact killB_go h1 hl
  | (k, .row t sz els g m) :: r, ob', h, l, x, hl => by
    simp only [killB] at h
    cases h1 : killB o r with
    | none => simp [h1] at h
    | some r' =>
      simp [h1] at h; subst h
      by_cases hk : k = l
      · subst hk; rw [go_same] at hl ⊢; cases hl; exact .inr (.inl ⟨t, sz, els, g, m, rfl, rfl⟩)
      · rw [go_other _ _ hk] at hl ⊢; exact killB_go h1 hl
  | (k, .rown t sz els g) :: r, ob', h, l, x, hl => by
    simp only [killB] at h
    cases h1 : killB o r with
    | none => simp [h1] at h
    | some r' =>
      simp [h1] at h; subst h
      by_cases hk : k = l
      · subst hk; rw [go_same] at hl ⊢; cases hl; exact .inr (.inr (.inl ⟨t, sz, els, g, rfl, rfl⟩))
      · rw [go_other _ _ hk] at hl ⊢; exact killB_go h1 hl
  | (k, .abs j y) :: r, ob', h, l, x, hl => by
    simp only [killB] at h
    cases h1 : killB o r with
    | none => simp [h1] at h
    | some r' =>
      simp [h1] at h; subst h
      by_cases hk : k = l
      · subst hk; rw [go_same] at hl ⊢; cases hl; exact .inr (.inr (.inr ⟨j, y, rfl, rfl⟩))
      · rw [go_other _ _ hk] at hl ⊢; exact killB_go h1 hl

section
variable {P : Program} {N : Nat} {d : Tmp} {ty : TypeId} {ps : String} {af : Array Edge} {gd : Option (Nat × Bool)} {x y z : Operand} {st : St}

/-- The elements of a slice, wherever they lie. -/
inductive Src (ob : List (Nat × Ob)) : C → List (List D) → Bool → Prop
  | d {g : Bool} {ys : List (List D)} : Src ob (.d g (.l ys)) ys g
  | nil : Src ob .nil [] true
  | w {o n : Nat} {t sz : Nat} {els : List (List D)} {g m : Bool} (h : go ob o = some (.row t sz els g m)) (hn : els.length = n) : Src ob (.w o n) els g
  | s {o off len : Nat} {t sz : Nat} {els : List (List D)} {g m : Bool} (h : go ob o = some (.row t sz els g m)) (hn : off + len ≤ els.length) : Src ob (.s o sz off len) ((els.drop off).take len) g
theorem src_ok {cx : Cx} {E : Env} {a : Act} {w : World} (hR : Rel N cx E st a w) {c : C} {ys : List (List D)} {g : Bool} {u : Value} (h : Src st.ob c ys g) (hu : cvC E w c u) :
    ∃ A k, u = .slice A ys.length k ∧ ys.length ≤ k ∧ (ys = [] ∨ ∃ b off, A = some ⟨b, off, none⟩ ∧ rdLL w (E.H g) ys b off) := by
  cases h with
  | d =>
    simp only [cvC, rdD] at hu
    obtain ⟨A, c, rfl, h1, h2⟩ := hu
    refine ⟨A, c, rfl, h1, ?_⟩
    rcases h2 with h2 | ⟨b, off, h3, _, h4⟩
    · exact .inl h2
    · exact .inr ⟨b, off, h3, h4⟩
  | nil => have : u = .slice none 0 0 := hu; subst this; exact ⟨none, 0, rfl, Nat.le_refl _, .inl rfl⟩
  | w h hn =>
    obtain ⟨b, c, hr, rfl⟩ := hu
    obtain ⟨b', c', arr, hr', hh, ha, hlc, hmx, hes, hrd, _⟩ := hR.obs _ _ h
    rw [hr] at hr'; cases hr'
    exact ⟨_, _, by rw [hn], hlc, .inr ⟨b, 0, rfl, hrd⟩⟩
  | s h hn =>
    rename_i o off len t sz els m
    obtain ⟨A, c, b, k, hr, rfl, hlc', hA⟩ := hu
    obtain ⟨b', c', arr, hr', hh, ha, hlc, hmx, hes, hrd, _⟩ := hR.obs _ _ h
    rw [hr] at hr'; cases hr'
    have hl : ((els.drop off).take len).length = len := by simp; omega
    refine ⟨A, c, by rw [hl], by rw [hl]; exact hlc', ?_⟩
    rcases hA with h0 | h0
    · left; exact List.eq_nil_of_length_eq_zero (by rw [hl]; exact h0)
    · right; exact ⟨b, off * sz, h0, by simpa using rdLL_take len (rdLL_drop hrd hes off)⟩
theorem run_append_nil {base : Nat} {t ty e : TypeId} {i : TypeInfo} {size : Nat} (w : World) (ht : P.underlying t = some (.slice e)) (hi : P.info? e = some i)
    {v : Value} {n : Nat} {xs : List Value} (hown : w.ownsRow base e size v n xs) (c : Nat) : (Builtin.append_ #[t, t] ty #[v, .slice none 0 c]).run P w = .ok v w := by
  rcases hown.2 with ⟨rfl, rfl⟩ | ⟨g, cap, cur, rfl, _, _, hnc, _⟩
  · simp [Builtin.append_, run_underlying ht, sizeOf, typeInfo, hi, Builtin.lenOf, Builtin.firstCells]
  · simp [Builtin.append_, run_underlying ht, sizeOf, typeInfo, hi, Builtin.lenOf, Builtin.firstCells, hnc, storeCells]
theorem rdL_vals {w : World} {F : Nat → Prop} {e : List D} {b k : Nat} (h : rdL w F e b k) : ∃ us : List Value, us.length = e.length ∧ (∀ (j : Nat) (u : Value), us[j]? = some u → w.cell? ((⟨b, k, none⟩ : Addr).add j) = some u) ∧
    (∀ u ∈ us, u.oneCell' = true) ∧ ∀ (j : Nat) (xd : D), e[j]? = some xd → ∃ u, us[j]? = some u ∧ rdD w F xd u := by
  obtain ⟨us, h1, h2, h3⟩ := rdL_list h
  refine ⟨us, h1, fun j u hj => by rw [add_at]; exact h2 j u hj, fun u hu => ?_, h3⟩
  obtain ⟨j, hj⟩ := List.getElem?_of_mem hu
  have hjl : j < us.length := (List.getElem?_eq_some_iff.1 hj).1
  obtain ⟨v, k1, k2⟩ := h3 j e[j] (List.getElem?_eq_getElem (by omega))
  rw [hj] at k1; cases k1
  exact rdD_scalar k2
/-- append onto a row of the call's own: what it does. -/
theorem append_core {cx : Cx} {E : Env} {a : Act} {w : World} (hR : Rel N cx E st a w) {t : TypeId} {e sz by_ o n : Nat} {els ys : List (List D)} {g gy : Bool} {c : C} {sl' : List (Nat × T)} {ob' : List (Nat × Ob)} [ht : TySl P t e sz by_] (hrv : rsp o = false) (hd : d < N)
    {b cc : Nat} {arr : Array Value} (hr : E.r o = some (b, cc)) (hu : a.eval x = .slice (some ⟨b, 0, none⟩) n cc) (hh : w.heap[b]? = some (.cells arr e (0, 0))) (ha : arr.size = cc * sz) (hlc : els.length ≤ cc) (hmx : cc ≤ maxLen) (hes : ∀ e ∈ els, e.length = sz) (hrd : rdLL w (E.H g) els b 0) (hF : ¬ E.F b)
    (hy : opT st.sl y = .v (.c c)) (hs : Src st.ob c ys gy) (hk : killS o st.sl = some sl') (hkb : killB o st.ob = some ob')
    (hn : els.length = n) (hsz : ∀ e ∈ ys, e.length = sz) (hb : (n + ys.length) * by_ ≤ 140737488355328) (h63 : n + ys.length ≤ 9223372036854775807) :
    Oper.wp P ⟨some d, .call ⟨.builtin .append, #[x, y], #[t, t]⟩, ty, ps, af, gd⟩ a w (fun a' w' => ∃ E', Rel N cx E' ⟨(d, .v (.c (.w o (n + ys.length)))) :: sl', (o, .row e sz (els ++ ys) (g && gy) true) :: ob', st.nx⟩ a' w') (fun _ _ _ => False) := by
  have h2 := hR.op y; rw [hy] at h2
  obtain ⟨A, k, hv, hyk, hA⟩ := src_ok hR hs h2
  obtain ⟨ii, zz, i1, i2, i3, i4, i5⟩ := ht.i
  have hbl := (hR.ok.rb o b cc hr)
  -- the row as the kit has it
  have hown : w.ownsRow 0 e sz (.slice (some ⟨b, 0, none⟩) n cc) n (arr.toList.take (n * sz)) :=
    ⟨by simp [ha]; rw [Nat.min_eq_left (by omega)], .inr ⟨b, cc, arr, rfl, Nat.zero_le _, hh, by omega, hmx, ha, rfl⟩⟩
  -- the source as raw cells
  have hsrc : ∃ news : List Value, news.length = ys.length * sz ∧ (∀ u ∈ news, u.oneCell' = true) ∧ (∀ (j : Nat) (xd : D), ys.flatten[j]? = some xd → ∃ u, news[j]? = some u ∧ rdD w (E.H gy) xd u) ∧
      ∃ v' w', (Builtin.append_ #[t, t] ty #[.slice (some ⟨b, 0, none⟩) n cc, .slice A ys.length k]).run P w = .ok v' w' ∧ w'.ownsRow 0 e sz v' (n + ys.length) (arr.toList.take (n * sz) ++ news) ∧ w.grownBy w' (some b) ∧ v' ≠ .slice none 0 0 ∧ (v'.ownBlock = some b ∨ v'.ownBlock = some w.heap.size) := by
    have hgood : ∀ ad, A = some ad → ∀ news : List Value, news.length = ys.length * sz → (∀ (j : Nat) (u : Value), news[j]? = some u → w.cell? (ad.add j) = some u) → (∀ u ∈ news, u.oneCell' = true) →
        ∃ v' w', (Builtin.append_ #[t, t] ty #[.slice (some ⟨b, 0, none⟩) n cc, .slice A ys.length k]).run P w = .ok v' w' ∧ w'.ownsRow 0 e sz v' (n + ys.length) (arr.toList.take (n * sz) ++ news) ∧ w.grownBy w' (some b) ∧ v' ≠ .slice none 0 0 ∧ (v'.ownBlock = some b ∨ v'.ownBlock = some w.heap.size) := by
      intro ad hAd news n1 n2 n3
      obtain ⟨v', w', r1, r2, r3, r4, r5⟩ := run_append_own_at (P := P) w 0 t ty e ii zz sz by_ ht.u i1 i4 i2 i3 i5 ht.p _ n _ hown ad ys.length k news n1 n2 n3 (by unfold maxLen; omega) hb (Nat.zero_le _)
      exact ⟨v', w', by rw [hAd]; exact r1, r2, r3, (fun h => by have h9 := (r4.1 h).1; simp at h9), r5⟩
    rcases hA with h0 | ⟨b2, off, rfl, hrd2⟩
    · subst h0
      refine ⟨[], by simp, by simp, by simp, ?_⟩
      cases A with
      | none => exact ⟨_, w, run_append_nil w ht.u i1 hown k, by simpa using hown, ⟨rfl, rfl, rfl, Nat.le_refl _, fun _ _ _ => rfl⟩, by simp, .inl rfl⟩
      | some ad => exact hgood ad rfl [] (by simp) (by simp) (by simp)
    · obtain ⟨us, q1, q2, q3, q4⟩ := rdL_vals (rdLL_flat.1 hrd2)
      exact ⟨us, by rw [q1, flat_len hsz], q3, q4, hgood _ rfl us (by rw [q1, flat_len hsz]) q2 q3⟩
  obtain ⟨news, n1, n2, n3, v', w', r1, r2, r3, r4, r5⟩ := hsrc
  obtain ⟨_, r2⟩ := r2
  rcases r2 with ⟨rfl, _⟩ | ⟨bn, cap, cur, rfl, _, hhn, hcap, hcapm, hcur, htk⟩
  · exact absurd rfl r4
  unfold Oper.wp
  simp only [execOp, resolve, invoke, builtin, Sem.run_bind, Sem.run_pure, Result.andThen_ok, List.map_toArray, List.map_cons, List.map_nil, hu, hv, r1, Oper.upon_value]
  have hbn : bn = b ∨ bn = w.heap.size := by simpa [Value.ownBlock] using r5
  have hsame : ∀ k, k < w.heap.size → k ≠ b → w'.heap[k]? = w.heap[k]? := fun k hk hne => r3.block k hk (fun e => hne (by injection e))
  have hnF : ¬ E.F bn := by
    rcases hbn with rfl | rfl
    · exact hF
    · exact fun h => by have := hR.ok.fb _ h; omega
  have hbig : bn < w'.heap.size := by
    rcases Nat.lt_or_ge bn w'.heap.size with h | h
    · exact h
    · rw [Array.getElem?_eq_none h] at hhn; cases hhn
  have hnew : ∀ l bl cl, l ≠ o → E.r l = some (bl, cl) → bl ≠ bn := by
    intro l bl cl hne hl e
    subst e
    rcases hbn with h | h
    · subst h; exact hne (hR.ok.inj l o _ _ _ hl hr)
    · have := (hR.ok.rb l bl cl hl).1; omega
  have hHb : ∀ g k, E.H g k → k ≠ b ∧ k < w.heap.size := fun g k hk => ⟨fun e => by subst e; cases g; exact hF hk; exact hF (hR.ok.gf _ hk), hR.ok.hb hk⟩
  have kb : KeepsBut o E w (E.upd o bn cap) w' := ⟨fun l x hne hl => by simp only [Env.upd]; rw [if_neg hne]; exact hl, fun _ _ h => h, fun g k hk => hsame k (hHb g k hk).2 (hHb g k hk).1, fun l k hk => ⟨hk, hsame k (hR.ok.sf.tb l k hk).1.1 (fun e => by subst e; exact (hR.ok.sf.tb l k hk).2.2.1 o _ hr)⟩, fun k hk => ⟨hk, .of_eq (hsame k (hR.ok.sf.zb k hk).1.2.1 (fun e => by subst e; exact (hR.ok.sf.zb k hk).2.2.1 o _ hr))⟩, fun _ _ => Iff.rfl⟩
  refine ⟨E.upd o bn cap, ⟨fun k hk => Nat.lt_of_lt_of_le (hR.ok.fb k hk) r3.size, hR.ok.gf, hR.ok.gn, fun l bl cl hl => ?_, fun l l' bl cl cl' hl hl' => ?_, by rw [r3.os]; exact hR.ok.os, by rw [r3.tape]; exact hR.ok.tape, by rw [r3.output]; exact hR.ok.output, Nat.le_trans hR.ok.size r3.size, fun k hk hW => ?_, fun l xx hv hl => by
    simp only [Env.upd] at hl
    split at hl
    · rename_i e; rw [e, hrv] at hv; cases hv
    · exact hR.ok.pin l xx hv hl, hR.ok.ff, fun k hk hk' => (hR.ok.gc k hk hk').of_eq (hsame k (hHb false k hk).2 (hHb false k hk).1), hR.ok.sf.turn hr rfl rfl (fun _ h => .inl h) (fun l bl cl hl => by
      simp only [Env.upd] at hl
      split at hl
      · cases hl
        rcases hbn with h | h
        · left; exact ⟨o, _, h ▸ hr⟩
        · right; omega
      · exact .inl ⟨l, cl, hl⟩) r3.size hsame⟩, fun l xx hl => ?_, fun l ob hl => ?_, fun k => ?_, hR.dfr, by simpa [Act.put] using hR.size, hR.td⟩
  · simp only [Env.upd] at hl
    split at hl
    · rename_i elo
      cases hl
      refine ⟨hbig, ?_⟩
      rcases hbn with h | h
      · rw [h, elo]; exact hbl.2
      · left; rw [h]; exact hR.ok.size
    · have := hR.ok.rb l bl cl hl; exact ⟨Nat.lt_of_lt_of_le this.1 r3.size, this.2⟩
  · simp only [Env.upd] at hl hl'
    split at hl <;> split at hl'
    · omega
    · cases hl; rename_i e1 e2; exact absurd rfl (hnew l' _ _ e2 hl')
    · cases hl'; rename_i e1 e2; exact absurd rfl (hnew l _ _ e1 hl)
    · exact hR.ok.inj l l' bl cl cl' hl hl'
  · have hkb' : k ≠ b := fun e => by
      subst e
      rcases hbl.2 with h | h
      · omega
      · exact hW h.1
    rw [hsame k (by have := hR.ok.size; omega) hkb']; exact hR.ok.block k hk hW
  · simp only [Env.upd] at hl
    split at hl
    · rename_i e; subst e; exact hR.dom _ _ hr
    · exact hR.dom l _ hl
  · by_cases hlo : o = l
    · subst hlo
      rw [go_same] at hl; cases hl
      have hall : ∀ e' ∈ els ++ ys, e'.length = sz := fun e' he' => by
        rcases List.mem_append.1 he' with h | h
        · exact hes e' h
        · exact hsz e' h
      refine ⟨bn, cap, cur, by simp [Env.upd], hhn, hcur, by simp; omega, hcapm, hall, ?_, fun _ => hnF, fun h => by cases h⟩
      rw [rdLL_flat]
      refine rdL_of fun j xd hj => ?_
      rw [Nat.zero_add, cell_var hhn]
      rw [List.flatten_append] at hj
      have hfl : els.flatten.length = n * sz := by rw [flat_len hes, hn]
      have hxs : (arr.toList.take (n * sz)).length = n * sz := by simp [ha]; rw [Nat.min_eq_left (by omega)]
      have hcurj : ∀ u, (arr.toList.take (n * sz) ++ news)[j]? = some u → cur[j]? = some u := by
        intro u hu
        rw [← htk, List.getElem?_take] at hu
        split at hu
        · simpa using hu
        · cases hu
      by_cases hjn : j < n * sz
      · rw [List.getElem?_append_left (by omega)] at hj
        obtain ⟨u, u1, u2⟩ := rdL_at (rdLL_flat.1 hrd) hj
        rw [Nat.zero_add, cell_var hh] at u1
        refine ⟨u, hcurj u ?_, rdD_mono (kb.heap _) (kb.H _) _ _ (rdD_H hR.ok u2 (by simp; intro a _; exact a))⟩
        rw [List.getElem?_append_left (by omega), List.getElem?_take, if_pos hjn]
        simpa using u1
      · rw [List.getElem?_append_right (by omega), hfl] at hj
        obtain ⟨u, u1, u2⟩ := n3 _ _ hj
        refine ⟨u, hcurj u ?_, rdD_mono (kb.heap _) (kb.H _) _ _ (rdD_H hR.ok u2 (by simp))⟩
        rw [List.getElem?_append_right (by omega), hxs]
        exact u1
    · rw [go_other _ _ hlo] at hl
      rcases killB_go hkb hl with ⟨t', cs, cs', k1, k2, rfl⟩ | ⟨t', sz', els', g', m', k1, rfl⟩ | ⟨t', sz', els', g', k1, rfl⟩ | ⟨j', y', k1, rfl⟩
      · obtain ⟨bl, cl, arrl, l1, l2, l3, l4⟩ := hR.obs l _ k1
        have hne : bl ≠ b := fun e => hlo (by subst e; exact hR.ok.inj _ _ _ _ _ hr l1)
        exact ⟨bl, cl, arrl, kb.r _ _ (Ne.symm hlo) l1, (hsame bl (hR.ok.rb _ _ _ l1).1 hne).trans l2, killC_but kb k2 l3, l4⟩
      · obtain ⟨bl, cl, arrl, l1, l2, l3, l4, l5, l6, l7, l8, l9⟩ := hR.obs l _ k1
        have hne : bl ≠ b := fun e => hlo (by subst e; exact hR.ok.inj _ _ _ _ _ hr l1)
        have hb2 := hsame bl (hR.ok.rb _ _ _ l1).1 hne
        exact ⟨bl, cl, arrl, kb.r _ _ (Ne.symm hlo) l1, hb2.trans l2, l3, l4, l5, l6, rdLL_mono' (kb.heap _) (kb.H _) hb2 _ _ l7, l8, l9⟩
      · rcases hR.obs l _ k1 with h | ⟨l0, bl, cl, arrl, l1, l2, l3, l4, l5, l6, l7, l8⟩
        · exact .inl h
        · have hne : bl ≠ b := fun e => hlo (by subst e; exact hR.ok.inj _ _ _ _ _ hr l1)
          have hb2 := hsame bl (hR.ok.rb _ _ _ l1).1 hne
          exact .inr ⟨l0, bl, cl, arrl, kb.r _ _ (Ne.symm hlo) l1, hb2.trans l2, l3, l4, l5, l6, rdLL_mono' (kb.heap _) (kb.H _) hb2 _ _ l7, l8⟩
      · rcases hR.obs l _ k1 with h | ⟨l0, bl, cl, l1, l2, l3⟩
        · exact .inl h
        · have hne : bl ≠ b := fun e => hlo (by subst e; exact hR.ok.inj _ _ _ _ _ hr l1)
          have hb2 := hsame bl (hR.ok.rb _ _ _ l1).1 hne
          exact .inr ⟨l0, bl, cl, kb.r _ _ (Ne.symm hlo) l1, y'.st _ _ _ _ _ _ l2 (fun k hk => (kb.T _ k hk).1) hb2 (fun k hk => (kb.T _ k hk).2), l3⟩
  · rw [getD_put (by rw [hR.size]; exact hd)]
    by_cases hdk : d = k
    · subst hdk; rw [gt_same, if_pos rfl]; exact ⟨bn, cap, by simp [Env.upd], rfl⟩
    · rw [gt_other _ _ hdk, if_neg hdk]
      rcases killS_gt hk k with h | ⟨h, h'⟩
      · rw [h]; trivial
      · rw [h]; exact cvT_but kb h' (hR.sl k)
/-- append onto a row of the call's own. -/
theorem o_append_w {t : TypeId} {e sz by_ o n : Nat} {els ys : List (List D)} {g gy : Bool} {c : C} {sl' : List (Nat × T)} {ob' : List (Nat × Ob)} [ht : TySl P t e sz by_] (hrv : rsp o = false) (hd : d < N)
    (hx : opT st.sl x = .v (.c (.w o n))) (hy : opT st.sl y = .v (.c c)) (ho : go st.ob o = some (.row e sz els g true)) (hs : Src st.ob c ys gy) (hk : killS o st.sl = some sl') (hkb : killB o st.ob = some ob')
    (hn : els.length = n) (hsz : ∀ e ∈ ys, e.length = sz) (hb : (n + ys.length) * by_ ≤ 140737488355328) (h63 : n + ys.length ≤ 9223372036854775807) :
    AWO P N ⟨some d, .call ⟨.builtin .append, #[x, y], #[t, t]⟩, ty, ps, af, gd⟩ st ⟨(d, .v (.c (.w o (n + ys.length)))) :: sl', (o, .row e sz (els ++ ys) (g && gy) true) :: ob', st.nx⟩ := by
  intro cx E a w hR
  have h1 := hR.op x; rw [hx] at h1
  obtain ⟨b, cc, hr, hu⟩ := h1
  obtain ⟨b', c', arr, hr', hh, ha, hlc, hmx, hes, hrd, hFm, _⟩ := hR.obs o _ ho
  rw [hr] at hr'; cases hr'
  exact append_core hR hrv hd hr hu hh ha hlc hmx hes hrd (hFm rfl) hy hs hk hkb hn hsz hb h63
end
end Go.AM
