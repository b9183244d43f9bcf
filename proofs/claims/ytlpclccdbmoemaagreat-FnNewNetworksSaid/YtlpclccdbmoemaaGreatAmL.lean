/-
  The abstract machine, part L: every order of a drawn region gives the same, proved.
-/
import Derived.Test.YtlpclccdbmoemaaGreatAmK
set_option linter.unusedVariables false
namespace Go.AM
open Go.RowKit

theorem snocInd {α : Type} {p : List α → Prop} (h0 : p []) (h1 : ∀ l x, p l → p (l ++ [x])) (l : List α) : p l := by
  have key : ∀ l : List α, p l.reverse := by
    intro l
    induction l with
    | nil => exact h0
    | cons x l ih => rw [List.reverse_cons]; exact h1 _ x ih
  have := key l.reverse
  rwa [List.reverse_reverse] at this
theorem anc_closed {ops : Array Oper} {listed : Array Bool} (hc : ∀ i o, ops[i]? = some o → listed.getD i false = true → ∀ e ∈ o.after, Region.binds .any e = true → listed.getD e.on false = true) :
    ∀ (n i j : Nat), anc ops n i j = true → (∃ o, ops[i]? = some o ∧ ∀ e ∈ o.after, Region.binds .any e = true → listed.getD e.on false = true) → listed.getD j false = true
  | 0, i, j, h, _ => by simp [anc] at h
  | n + 1, i, j, h, ⟨o, ho, hd⟩ => by
    simp only [anc, ho, List.any_eq_true, Bool.and_eq_true, Bool.or_eq_true] at h
    obtain ⟨e, he, hb, h⟩ := h
    have hl := hd e (by simpa using he) hb
    rcases h with h | h
    · rw [← Nat.eq_of_beq_eq_true h]; exact hl
    · cases ho' : ops[e.on]? with
      | none => cases n <;> simp [anc, ho'] at h
      | some o' => exact anc_closed hc n e.on j h ⟨o', ho', hc e.on o' ho' hl⟩
theorem dsts_inj : ∀ {is : List Inf}, dstsOk is = true → ∀ (i j : Nat) (x y : Inf), is[i]? = some x → is[j]? = some y → x.d = y.d → i = j
  | [], _, i, j, x, y, h, _, _ => by simp at h
  | z :: is, h, i, j, x, y, hi, hj, he => by
    simp only [dstsOk, Bool.and_eq_true, Bool.not_eq_true'] at h
    have hno : ∀ (k : Nat) (v : Inf), is[k]? = some v → z.d ≠ v.d := fun k v hk e => by
      have : (is.any fun y => Nat.beq z.d y.d) = true := List.any_eq_true.2 ⟨v, List.mem_of_getElem? hk, by simp [e]⟩
      rw [this] at h; exact absurd h.1 (by simp)
    cases i with
    | zero =>
      cases j with
      | zero => rfl
      | succ j => simp at hi hj; subst hi; exact absurd he (hno j y hj)
    | succ i =>
      cases j with
      | zero => simp at hi hj; subst hj; exact absurd he.symm (hno i x hi)
      | succ j => have := dsts_inj h.2 i j x y (by simpa using hi) (by simpa using hj) he; omega
/-- What slot k holds behind the first operations: the last writer's, or what it held. -/
theorem slAt_gt {base : St} : ∀ (is : List Inf) (k : Nat), (∀ x ∈ is, x.d ≠ k) → gt (slAt base is) k = gt base.sl k := by
  intro is
  refine snocInd (p := fun is => ∀ (k : Nat), (∀ x ∈ is, x.d ≠ k) → gt (slAt base is) k = gt base.sl k) ?_ ?_ is
  · intro k _; rfl
  · intro is x ih k h
    rw [slAt_snoc, gt_other _ _ (h x (by simp))]
    exact ih k fun y hy => h y (by simp [hy])
theorem slAt_gt_of {base : St} : ∀ (is : List Inf) (i : Nat) (x : Inf), is[i]? = some x → (∀ (j : Nat) (y : Inf), is[j]? = some y → y.d = x.d → j = i) → gt (slAt base is) x.d = x.out := by
  intro is
  refine snocInd (p := fun is => ∀ (i : Nat) (x : Inf), is[i]? = some x → (∀ (j : Nat) (y : Inf), is[j]? = some y → y.d = x.d → j = i) → gt (slAt base is) x.d = x.out) ?_ ?_ is
  · intro i x h; simp at h
  · intro is z ih i x h hu
    rw [slAt_snoc]
    by_cases hi : i < is.length
    · rw [List.getElem?_append_left hi] at h
      have hz : z.d ≠ x.d := fun e => by
        have := hu is.length z (by simp) e
        omega
      rw [gt_other _ _ hz]
      exact ih i x h fun j y hj he => hu j y (by rw [List.getElem?_append_left (List.getElem?_eq_some_iff.1 hj).1]; exact hj) he
    · rw [List.getElem?_append_right (by omega)] at h
      have : i - is.length = 0 := by
        rcases Nat.eq_zero_or_pos (i - is.length) with h0 | h0
        · exact h0
        · rw [List.getElem?_eq_none (by simp; omega)] at h; cases h
      rw [this] at h; simp at h; subst h
      exact gt_same _ _ _
theorem go_obAt {base : St} : ∀ (is : List Inf) (l : Nat) (ob : Ob), go (obAt base is) l = some ob → (∃ (j : Nat) (x : Inf), is[j]? = some x ∧ (l, ob) ∈ x.nw) ∨ go base.ob l = some ob := by
  intro is
  refine snocInd (p := fun is => ∀ (l : Nat) (ob : Ob), go (obAt base is) l = some ob → (∃ (j : Nat) (x : Inf), is[j]? = some x ∧ (l, ob) ∈ x.nw) ∨ go base.ob l = some ob) ?_ ?_ is
  · intro l ob h; exact .inr h
  · intro is z ih l ob h
    rw [obAt_snoc] at h
    rcases go_append h with h | h
    · exact .inl ⟨is.length, z, by simp, h⟩
    · rcases ih l ob h with ⟨j, x, h1, h2⟩ | h
      · exact .inl ⟨j, x, by rw [List.getElem?_append_left (List.getElem?_eq_some_iff.1 h1).1]; exact h1, h2⟩
      · exact .inr h
theorem labs_range : ∀ {is : List Inf} {nx n : Nat}, LabsFrom nx is n → nx ≤ n ∧ ∀ (j : Nat) (x : Inf) (l : Nat) (ob : Ob), is[j]? = some x → (l, ob) ∈ x.nw → nx ≤ l ∧ l < n
  | [], nx, n, h => ⟨by have : n = nx := h; omega, by simp⟩
  | y :: ys, nx, n, ⟨m, h1, h2⟩ => by
    obtain ⟨a1, a2⟩ := Nw.mem h1
    obtain ⟨b1, b2⟩ := labs_range h2
    refine ⟨by omega, fun j x l ob hj hm => ?_⟩
    cases j with
    | zero => simp at hj; subst hj; have := a2 l ob hm; omega
    | succ j => have := b2 j x l ob (by simpa using hj) hm; omega
theorem nw_func : ∀ {nw : List (Nat × Ob)} {nx n : Nat}, Nw nx nw n → ∀ l x y, (l, x) ∈ nw → (l, y) ∈ nw → x = y
  | [], _, _, _, l, x, y, h, _ => by simp at h
  | (k, z) :: r, nx, n, h, l, x, y, h1, h2 => by
    rw [Nw] at h
    have hr := (Nw.mem h.2).2
    rcases List.mem_cons.1 h1 with e1 | h1 <;> rcases List.mem_cons.1 h2 with e2 | h2
    · cases e1; cases e2; rfl
    · cases e1; have := hr _ _ h2; omega
    · cases e2; have := hr _ _ h1; omega
    · exact nw_func h.2 l x y h1 h2
theorem labs_rsv : ∀ {is : List Inf} {nx n : Nat}, LabsFrom nx is n → ∀ (j : Nat) (x : Inf) (l : Nat) (ob : Ob), is[j]? = some x → (l, ob) ∈ x.nw → rsv l = false
  | [], _, _, _, _, _, _, _, h, _ => by simp at h
  | y :: ys, nx, n, ⟨m, h1, h2⟩, 0, x, l, ob, hx, hm => by
    simp at hx; subst hx
    exact ((Nw.mem h1).2 l ob hm).2.2
  | y :: ys, nx, n, ⟨m, h1, h2⟩, j + 1, x, l, ob, hx, hm => labs_rsv h2 j x l ob (by simpa using hx) hm
theorem labs_func : ∀ {is : List Inf} {nx n : Nat}, LabsFrom nx is n → ∀ (j j' : Nat) (x x' : Inf) (l : Nat) (ob ob' : Ob), is[j]? = some x → is[j']? = some x' → (l, ob) ∈ x.nw → (l, ob') ∈ x'.nw → j = j' ∧ ob = ob'
  | [], nx, n, h, j, j', x, x', l, ob, ob', h1, _, _, _ => by simp at h1
  | y :: ys, nx, n, ⟨m, h1, h2⟩, j, j', x, x', l, ob, ob', hj, hj', hm, hm' => by
    have a2 := (Nw.mem h1).2
    have b2 := (labs_range h2).2
    cases j with
    | zero =>
      cases j' with
      | zero => simp at hj hj'; subst hj; subst hj'; exact ⟨rfl, nw_func h1 l ob ob' hm hm'⟩
      | succ j' => simp at hj; subst hj; have k1 := a2 l ob hm; have k2 := b2 j' x' l ob' (by simpa using hj') hm'; omega
    | succ j =>
      cases j' with
      | zero => simp at hj'; subst hj'; have k1 := a2 l ob' hm'; have k2 := b2 j x l ob (by simpa using hj) hm; omega
      | succ j' => have := labs_func h2 j j' x x' l ob ob' (by simpa using hj) (by simpa using hj') hm hm'; exact ⟨by omega, this.2⟩
/-- Where the region stands: some operations are done. -/
structure Inv (P : Program) (N : Nat) (cx : Cx) (base : St) (is : List Inf) (listed : Array Bool) (a : Act) (w : World) (E : Env) : Prop where
  ok : EnvOK cx E w
  dom : ∀ l x, E.r l = some x → l < base.nx ∨ ∃ j y ob, listed.getD j false = true ∧ is[j]? = some y ∧ (l, ob) ∈ y.nw
  obs : ∀ l ob, go base.ob l = some ob → relOb E w l ob
  new : ∀ j y l ob, listed.getD j false = true → is[j]? = some y → (l, ob) ∈ y.nw → relOb E w l ob
  out : ∀ j y, listed.getD j false = true → is[j]? = some y → cvT E w y.out (a.tmps.getD y.d undef)
  old : ∀ k, (∀ j y, listed.getD j false = true → is[j]? = some y → y.d ≠ k) → cvT E w (gt base.sl k) (a.tmps.getD k undef)
  dfr : a.defers = []
  size : a.tmps.size = N
  td : ∀ l b, E.T l b → l < base.nx
theorem getD_listed {listed : Array Bool} {i j : Nat} (hi : i < listed.size) : (listed.setIfInBounds i true).getD j false = if i = j then true else listed.getD j false := by
  by_cases h : i = j
  · subst h; simp [hi]
  · simp [h, Array.getElem?_setIfInBounds_ne h]
section
variable {P : Program} {N : Nat} {cx : Cx} {ops : Array Oper} {base : St} {is : List Inf} {Q : Exit → Act → World → Prop}
/-- One more operation is done. -/
theorem inv_step {listed : Array Bool} {a : Act} {w : World} {E : Env} (hI : Inv P N cx base is listed a w E) {nmax : Nat} (hlab : LabsFrom base.nx is nmax) (hdst : dstsOk is = true) {i : Nat} {x : Inf} (hx : is[i]? = some x) (hil : i < listed.size)
    (hun : listed.getD i false = false) (hdN : x.d < N) {v : Value} {E' : Env} {w' : World} (ok' : EnvOK cx E' w') (ext : Ext E w E' w') (hv : cvT E' w' x.out v) (hnw : ∀ l ob, (l, ob) ∈ x.nw → relOb E' w' l ob)
    (hdom : ∀ l y, E'.r l = some y → E.r l = some y ∨ ∃ ob, (l, ob) ∈ x.nw) : Inv P N cx base is (listed.setIfInBounds i true) (a.put (some x.d) v) w' E' := by
  have hk := Keeps.of_ext hI.ok ext
  have hd' : ∀ j y, is[j]? = some y → j ≠ i → y.d ≠ x.d := fun j y hj hne he => hne (dsts_inj hdst j i y x hj hx he)
  refine ⟨ok', fun l y hl => ?_, fun l ob hl => relOb_ext hI.ok ext (hI.obs l ob hl), fun j y l ob hj hy hm => ?_, fun j y hj hy => ?_, fun k hkk => ?_, hI.dfr, by simpa [Act.put] using hI.size, fun l b h => hI.td l b (by rw [← ext.T]; exact h)⟩
  · rcases hdom l y hl with h | ⟨ob, h⟩
    · rcases hI.dom l y h with h | ⟨j, z, ob, h1, h2, h3⟩
      · exact .inl h
      · refine .inr ⟨j, z, ob, ?_, h2, h3⟩
        rw [getD_listed hil]; split
        · rfl
        · exact h1
    · exact .inr ⟨i, x, ob, by rw [getD_listed hil, if_pos rfl], hx, h⟩
  · by_cases hji : i = j
    · subst hji; rw [hx] at hy; cases hy; exact hnw l ob hm
    · rw [getD_listed hil, if_neg hji] at hj; exact relOb_ext hI.ok ext (hI.new j y l ob hj hy hm)
  · by_cases hji : i = j
    · subst hji; rw [hx] at hy; cases hy
      rw [getD_put (by rw [hI.size]; exact hdN), if_pos rfl]; exact hv
    · rw [getD_listed hil, if_neg hji] at hj
      rw [getD_put (by rw [hI.size]; exact hdN), if_neg (Ne.symm (hd' j y hy (Ne.symm hji)))]
      exact cvT_keeps hk (hI.out j y hj hy)
  · have hxk : x.d ≠ k := hkk i x (by rw [getD_listed hil, if_pos rfl]) hx
    rw [getD_put (by rw [hI.size]; exact hdN), if_neg hxk]
    refine cvT_keeps hk (hI.old k fun j y hj hy => hkk j y ?_ hy)
    rw [getD_listed hil]; split
    · rfl
    · exact hj
theorem wpAny_draw (hN : is.length = ops.size) {nmax : Nat} (hlab : LabsFrom base.nx is nmax) (hdst : dstsOk is = true) (hbk : ∀ l ob, go base.ob l = some ob → l < base.nx)
    (hedge : ∀ i o, ops[i]? = some o → ∀ e ∈ o.after, Region.binds .any e = true → e.on < i)
    (hslot : ∀ i x, is[i]? = some x → ∀ k ∈ slotsOf x.needs, ∀ j, writer is k = some j → if nlt j i then anc ops is.length i j = true else (i = j ∨ anc ops is.length j i = true))
    (hobj : ∀ i x, is[i]? = some x → ∀ p ∈ x.nob, p.1 < base.nx ∨ ∃ j, maker is p.1 = some j ∧ anc ops is.length i j = true)
    (htold : ∀ (i : Nat) (o : Oper) (x : Inf), ops[i]? = some o → is[i]? = some x → Told P N ops base (is.take i) o x)
    (hfin : ∀ listed a w E, (∀ j, j < ops.size → listed.getD j false = true) → Inv P N cx base is listed a w E → Q .normal a w) :
    ∀ (fuel : Nat) (listed : Array Bool) (a : Act) (w : World) (E : Env), listed.size = ops.size → ((List.range ops.size).filter fun i => !listed.getD i false).length = fuel →
      (∀ i o, ops[i]? = some o → listed.getD i false = true → ∀ e ∈ o.after, Region.binds .any e = true → listed.getD e.on false = true) → Inv P N cx base is listed a w E → wpAny P .any ops Q fuel listed a w := by
  have hall : ∀ (listed : Array Bool), ((List.range ops.size).filter fun i => !listed.getD i false).length = 0 → ∀ j, j < ops.size → listed.getD j false = true := by
    intro listed h j hj
    have := List.eq_nil_of_length_eq_zero h
    have h2 := List.filter_eq_nil_iff.1 this j (by simpa using hj)
    simpa using h2
  intro fuel
  induction fuel with
  | zero =>
    intro listed a w E hsz hc hcl hI
    have hal := hall listed hc
    refine ⟨?_, hfin listed a w E hal hI⟩
    rw [List.eq_nil_iff_forall_not_mem]
    intro i hi
    obtain ⟨h1, o, h2, h3⟩ := mem_ready.1 hi
    have hil : i < ops.size := by
      rcases Nat.lt_or_ge i ops.size with h | h
      · exact h
      · rw [Array.getElem?_eq_none h] at h2; cases h2
    have := hal i hil
    rw [Array.getD_eq_getD_getElem?, Array.getElem?_eq_getElem (by omega)] at this h1
    simp at this h1
    rw [this] at h1; cases h1
  | succ fuel ih =>
    intro listed a w E hsz hc hcl hI
    refine ⟨fun h0 => ?_, fun i hi => ?_⟩
    · -- an operation that is not done and that may be done
      exfalso
      have hex : ∃ i, i < ops.size ∧ listed.getD i false = false := by
        have : ((List.range ops.size).filter fun i => !listed.getD i false) ≠ [] := fun e => by rw [e] at hc; simp at hc
        obtain ⟨i, hi⟩ := List.exists_mem_of_ne_nil _ this
        simp only [List.mem_filter, List.mem_range, Bool.not_eq_true'] at hi
        exact ⟨i, hi.1, hi.2⟩
      have hmin : ∀ n i, i ≤ n → i < ops.size → listed.getD i false = false → ∃ i, i ∈ Region.ready .any ops listed := by
        intro n
        induction n using Nat.strongRecOn with
        | _ n ihn =>
          intro i hin his hif
          by_cases hd : ∀ e ∈ ops[i].after, Region.binds .any e = true → listed.getD e.on false = true
          · refine ⟨i, mem_ready.2 ⟨?_, ops[i], Array.getElem?_eq_getElem his, hd⟩⟩
            rw [Array.getD_eq_getD_getElem?, Array.getElem?_eq_getElem (by omega)] at hif ⊢
            simpa using hif
          · simp only [Classical.not_forall] at hd
            obtain ⟨e, he, hb, hne⟩ := hd
            have hlt := hedge i ops[i] (Array.getElem?_eq_getElem his) e he hb
            exact ihn e.on (by omega) e.on (Nat.le_refl _) (by omega) (by simpa using hne)
      obtain ⟨i, h1, h2⟩ := hex
      obtain ⟨j, hj⟩ := hmin i i (Nat.le_refl _) h1 h2
      rw [h0] at hj; cases hj
    · obtain ⟨h1, o, ho, hd⟩ := mem_ready.1 hi
      have hio : i < ops.size := by
        rcases Nat.lt_or_ge i ops.size with h | h
        · exact h
        · rw [Array.getElem?_eq_none h] at ho; cases ho
      have hun : listed.getD i false = false := by
        rw [Array.getD_eq_getD_getElem?, Array.getElem?_eq_getElem (by omega)] at h1 ⊢
        simpa using h1
      obtain ⟨x, hx⟩ : ∃ x, is[i]? = some x := ⟨_, List.getElem?_eq_getElem (by omega)⟩
      obtain ⟨t1, t2, t3, t4, t5⟩ := htold i o x ho hx
      have hanc : ∀ j, anc ops is.length i j = true → listed.getD j false = true := fun j hj => anc_closed hcl _ i j hj ⟨o, ho, hd⟩
      -- what the operands hold here
      have hneeds : ∀ y t, (y, t) ∈ x.needs → cvT E w t (a.eval y) := by
        intro y t hm
        have ht := t1 y t hm
        cases y with
        | tmp k =>
          have hks : k ∈ slotsOf x.needs := by
            have key : ∀ (l : List (Operand × T)), (Operand.tmp k, t) ∈ l → k ∈ slotsOf l := by
              intro l
              induction l with
              | nil => intro h; cases h
              | cons p r ihl =>
                intro h
                rcases List.mem_cons.1 h with e | h
                · rw [← e]; simp [slotsOf]
                · have h9 := ihl h; obtain ⟨z, u⟩ := p; cases z <;> simp [slotsOf, h9]
            exact key _ hm
          show cvT E w t (a.tmps.getD k undef)
          have ht' : gt (slAt base (is.take i)) k = t := ht
          cases hw : writer is k with
          | none =>
            have hno : ∀ z ∈ is, z.d ≠ k := by
              intro z hz e
              have := List.findIdx?_eq_none_iff.1 hw z hz
              rw [e] at this; simp at this
            rw [slAt_gt _ _ (fun z hz => hno z (List.mem_of_mem_take hz))] at ht'
            rw [← ht']
            exact hI.old k fun j y _ hy => hno y (List.mem_of_getElem? hy)
          | some j =>
            have hs := hslot i x hx k hks j hw
            obtain ⟨hjl, hjp, _⟩ := List.findIdx?_eq_some_iff_getElem.1 hw
            have hjd : is[j].d = k := Nat.eq_of_beq_eq_true hjp
            have hju : ∀ j' y, is[j']? = some y → y.d = k → j' = j := fun j' y hy he => dsts_inj hdst j' j y is[j] hy (List.getElem?_eq_getElem hjl) (by rw [he, hjd])
            by_cases hji : j < i
            · rw [if_pos (by simp [nlt]; omega)] at hs
              have hdone := hanc j hs
              have := hI.out j is[j] hdone (List.getElem?_eq_getElem hjl)
              rw [hjd] at this
              have h9 := slAt_gt_of (base := base) (is.take i) j is[j] (by rw [List.getElem?_take, if_pos hji]; exact List.getElem?_eq_getElem hjl) (fun j' y hy he => hju j' y (by rw [List.getElem?_take] at hy; split at hy; exact hy; cases hy) (by rw [he, hjd]))
              rw [hjd] at h9
              rw [← ht', h9]; exact this
            · rw [if_neg (by simp [nlt]; omega)] at hs
              rw [slAt_gt _ _ (fun z hz e => by
                obtain ⟨j', hj'⟩ := List.getElem?_of_mem hz
                rw [List.getElem?_take] at hj'
                split at hj'
                · rename_i hlt; have := hju j' z hj' e; omega
                · cases hj')] at ht'
              rw [← ht']
              refine hI.old k fun j' y hj' hy he => ?_
              have hjj := hju j' y hy he
              subst hjj
              rcases hs with rfl | hs
              · rw [hun] at hj'; cases hj'
              · have : listed.getD i false = true := anc_closed hcl _ j' i hs (by
                  obtain ⟨o', ho'⟩ : ∃ o', ops[j']? = some o' := ⟨_, Array.getElem?_eq_getElem (by omega)⟩
                  exact ⟨o', ho', hcl j' o' ho' hj'⟩)
                rw [hun] at this; cases this
        | const v => have := (show Rel N cx E ⟨[], [], base.nx⟩ a w → cvT E w (opT [] (.const v)) (a.eval (.const v)) from fun h => h.op _); rw [← ht]; cases v <;> simp only [opT, Act.eval, cvT, cvV] <;> first | exact constC_ok E w _ | exact ⟨_, rfl, CV_const E w _⟩ | (simp only [cvC, rdD])
        | func f => rw [← ht]; simp [opT, Act.eval, cvT, cvV, cvC]
        | global g => rw [← ht]; trivial
      have hnob : ∀ l ob, (l, ob) ∈ x.nob → relOb E w l ob := by
        intro l ob hm
        have hgo := t2 l ob hm
        rcases go_obAt _ _ _ hgo with ⟨j, y, hj, hy⟩ | h
        · rw [List.getElem?_take] at hj
          split at hj
          · rename_i hji
            have hlr := (labs_range hlab).2 j y l ob hj hy
            rcases hobj i x hx (l, ob) hm with h | ⟨j', hj', hanc'⟩
            · simp at h; omega
            · obtain ⟨hjl, hjp, _⟩ := List.findIdx?_eq_some_iff_getElem.1 hj'
              obtain ⟨p, hp1, hp2⟩ := List.any_eq_true.1 hjp
              obtain ⟨pl, pob⟩ := p
              have hpl : pl = l := Nat.eq_of_beq_eq_true hp2
              subst hpl
              have := labs_func hlab j j' y is[j'] pl ob pob hj (List.getElem?_eq_getElem hjl) hy hp1
              exact hI.new j y pl ob (by rw [this.1]; exact hanc j' hanc') hj hy
          · cases hj
        · exact hI.obs l ob h
      have hfresh : ∀ l ob, (l, ob) ∈ x.nw → E.r l = none := by
        intro l ob hm
        cases hr : E.r l with
        | none => rfl
        | some p =>
          have hlr := (labs_range hlab).2 i x l ob hx hm
          rcases hI.dom l p hr with h | ⟨j, y, ob', h1, h2, h3⟩
          · omega
          · have := (labs_func hlab i j x y l ob ob' hx h2 hm h3).1
            subst this; rw [hun] at h1; cases h1
      have hnext : ∀ v E' w', EnvOK cx E' w' → Ext E w E' w' → cvT E' w' x.out v → (∀ l ob, (l, ob) ∈ x.nw → relOb E' w' l ob) → (∀ l y, E'.r l = some y → E.r l = some y ∨ ∃ ob, (l, ob) ∈ x.nw) →
          wpAny P .any ops Q fuel (listed.setIfInBounds i true) (a.put (some x.d) v) w' := by
        intro v E' w' k1 k2 k3 k4 k5
        refine ih _ _ _ E' (by simpa using hsz) ?_ ?_ (inv_step hI hlab hdst hx (by omega) hun t4 k1 k2 k3 k4 k5)
        · -- one fewer is left
          have hcount : ∀ (l : List Nat), l.Nodup → i ∈ l → (l.filter fun k => !listed.getD k false).length = (l.filter fun k => !(listed.setIfInBounds i true).getD k false).length + 1 := by
            intro l
            induction l with
            | nil => intro _ h; cases h
            | cons k l ihl =>
              intro hnd hm
              obtain ⟨hk1, hk2⟩ := List.nodup_cons.1 hnd
              by_cases hki : i = k
              · subst hki
                have hsame : (l.filter fun k => !listed.getD k false) = (l.filter fun k => !(listed.setIfInBounds i true).getD k false) := by
                  apply List.filter_congr
                  intro z hz
                  rw [getD_listed (by omega), if_neg (fun e => hk1 (by rw [e]; exact hz))]
                rw [List.filter_cons_of_pos (by simp only [Bool.not_eq_true']; exact hun), List.filter_cons_of_neg (by rw [getD_listed (by omega), if_pos rfl]; simp), hsame, List.length_cons]
              · have hml : i ∈ l := by rcases List.mem_cons.1 hm with e | e; exact absurd e hki; exact e
                have := ihl hk2 hml
                have hgk : (listed.setIfInBounds i true).getD k false = listed.getD k false := by rw [getD_listed (by omega), if_neg hki]
                cases hgd : listed.getD k false with
                | true => rw [List.filter_cons_of_neg (by simp only [hgd]; simp), List.filter_cons_of_neg (by simp only [hgk, hgd]; simp)]; exact this
                | false => rw [List.filter_cons_of_pos (by simp only [hgd]; simp), List.filter_cons_of_pos (by simp only [hgk, hgd]; simp), List.length_cons, List.length_cons, this]
          have := hcount (List.range ops.size) List.nodup_range (by simpa using hio)
          omega
        · intro j oj hj hdj e he hb
          rw [getD_listed (by omega)]
          split
          · rfl
          · rw [getD_listed (by omega)] at hdj
            split at hdj
            · rename_i hij; subst hij; rw [ho] at hj; cases hj; exact hd e he hb
            · exact hcl j oj hj hdj e he hb
      -- the operation itself
      have hrun : ∀ needs, (∀ y t, (y, t) ∈ needs → cvT E w t (a.eval y)) → AWN P o needs x.nob x.out x.nw → o.wp P a w (wpAny P .any ops Q fuel (listed.setIfInBounds i true)) Q := by
        intro needs hne hawn
        refine wp_monoQ (fun _ _ _ h => h.elim) (Oper.wp_mono ?_ (hawn cx E a w hI.ok hne hnob (fun l ob hm => ⟨hfresh l ob hm, labs_rsv hlab i x l ob hx hm⟩)))
        rintro a' w' ⟨v, E', rfl, k1, k2, k3, k4, k5⟩
        rw [t3]
        exact hnext v E' w' k1 k2 k3 k4 k5
      have hguard : ∀ j dj (b : Bool), (ops[j]?).bind (·.dst) = some dj → dj < N → cvT E w (tB b) (a.eval (.tmp dj)) → yielded ops a.tmps j = some b := by
        intro j dj b hj hdj hcv
        have hb : a.tmps.getD dj undef = .bool b := by simpa [cvT, cvV, cvC, rdD, Act.eval] using hcv
        have hs : dj < a.tmps.size := by rw [hI.size]; exact hdj
        have h2 : a.tmps[dj]? = some (.bool b) := by
          rw [Array.getElem?_eq_getElem hs]; simpa [Array.getD, hs] using hb
        unfold yielded
        cases ho' : ops[j]? with
        | none => simp [ho'] at hj
        | some o' => simp [ho'] at hj; simp [hj, h2]
      unfold wpOp
      simp only [ho]
      rcases t5 with ⟨hg, hawn⟩ | ⟨j, dj, b, ys, hg, hj, hdj, hnd, hawn⟩ | ⟨j, dj, b, t, hg, hj, hdj, hnd, hno, hout, hnw⟩
      · rw [if_pos (by simp [Region.wanted, hg])]
        exact .inl (hrun _ hneeds hawn)
      · have hy := hguard j dj b hj hdj (hneeds (.tmp dj) (tB b) (by rw [hnd]; simp))
        rw [if_pos (by simp [Region.wanted, hg, hy])]
        exact .inl (hrun ys (fun y t hm => hneeds y t (by rw [hnd]; exact .tail _ hm)) hawn)
      · have hy := yield_no (N := N) (ops := ops) (hneeds (.tmp dj) t (by rw [hnd]; simp)) (by rw [hI.size]; exact hdj) hj hno
        rw [if_neg (by simp [Region.wanted, hg, hy]), t3]
        exact hnext undef E w hI.ok (Ext.refl E w) (by rw [hout]; exact ⟨#[], rfl, trivial⟩) (by rw [hnw]; simp) (fun _ _ h => .inl h)
end
theorem rep_getD (n i : Nat) : (Array.replicate n false).getD i false = false := by
  by_cases h : i < n <;> simp [h]
theorem rel_drew {N : Nat} {cx : Cx} {E : Env} {st : St} {a : Act} {w : World} (hR : Rel N cx E st a w) : Rel N cx E st a { w with drawn := w.drawn + 1 } := by
  have hk : Keeps E w E { w with drawn := w.drawn + 1 } := ⟨fun _ _ h => h, fun _ _ h => h, fun _ _ _ => rfl, fun _ _ h => ⟨h, rfl⟩, fun _ h => ⟨h, .of_eq rfl⟩, rfl⟩
  exact ⟨⟨hR.ok.fb, hR.ok.gf, hR.ok.gn, hR.ok.rb, hR.ok.inj, hR.ok.os, hR.ok.tape, hR.ok.output, hR.ok.size, hR.ok.block, hR.ok.pin, hR.ok.ff, fun b h h' => (hR.ok.gc b h h').of_eq rfl, hR.ok.sf.grow rfl rfl (fun _ h => .inl h) (fun o b c h => .inl ⟨o, c, h⟩) (Nat.le_refl _) (fun _ _ => rfl)⟩, hR.dom, fun l ob h => relOb_keeps hk (fun _ _ _ => rfl) (fun _ _ _ h => h) (hR.obs l ob h), fun k => cvT_keeps hk (hR.sl k), hR.dfr, hR.size, hR.td⟩
/-- All objects bear labels that were given away. -/
def obLt (n : Nat) : List (Nat × Ob) → Bool
  | [] => true
  | (l, _) :: r => nlt l n && obLt n r
theorem obLt_ok {n : Nat} : ∀ {ob : List (Nat × Ob)} {l : Nat} {x : Ob}, obLt n ob = true → go ob l = some x → l < n
  | (k, v) :: r, l, x, h, hg => by
    simp only [obLt, Bool.and_eq_true] at h
    by_cases hk : k = l
    · subst hk; exact blt_lt h.1
    · rw [go_other _ _ hk] at hg; exact obLt_ok h.2 hg
theorem awc_draw {P : Program} {N id : Nat} {l : List Oper} {st : St} {AQ : Exit → St → Prop} (hm : P.follows .mixedOrders = true) (hol : obLt st.nx st.ob = true)
    (h : DR P N l.toArray l [] st (fun is s => drawOK l.toArray is st.nx = true ∧ AQ .normal s)) : AWC P N (.region id l.toArray true) st AQ := by
  intro cx E a w hR
  obtain ⟨is, st', n1, n2, n3, n4, n5, n6, n7⟩ := dr_told (base := st) h (fun _ => rfl) rfl rfl
  simp only [List.nil_append] at n2 n3 n4 n5 n6
  simp only [drawOK, Bool.and_eq_true] at n6
  obtain ⟨⟨c1, c2⟩, c3⟩ := n6
  have hlen : is.length = l.toArray.size := by simpa using n1
  have hall : ∀ (i : Nat) (x : Inf) (o : Oper), is[i]? = some x → l.toArray[i]? = some o → (∀ e ∈ o.after, Region.binds .any e = true → e.on < i) ∧
      (∀ k ∈ slotsOf x.needs, ∀ j, writer is k = some j → if nlt j i then anc l.toArray is.length i j = true else (i = j ∨ anc l.toArray is.length j i = true)) ∧
      (∀ p ∈ x.nob, p.1 < st.nx ∨ ∃ j, maker is p.1 = some j ∧ anc l.toArray is.length i j = true) := by
    intro i x o hx ho
    have hil : i < is.length := (List.getElem?_eq_some_iff.1 hx).1
    have := List.all_eq_true.1 c3 i (by simpa using hil)
    simp only [hx, ho, Bool.and_eq_true, List.all_eq_true] at this
    obtain ⟨⟨k1, k2⟩, k3⟩ := this
    refine ⟨fun e he hb => ?_, fun k hk j hj => ?_, fun p hp => ?_⟩
    · have := k1 e (by simpa using he); simp only [hb, Bool.not_true, Bool.false_or] at this; exact blt_lt this
    · have := k2 k hk
      simp only [hj] at this
      split
      · rename_i hji; simpa [hji] using this
      · rename_i hji
        simp only [hji, Bool.false_eq_true, if_false, Bool.or_eq_true] at this
        rcases this with h | h
        · exact .inl (Nat.eq_of_beq_eq_true h)
        · exact .inr h
    · have := k3 p hp
      simp only [Bool.or_eq_true] at this
      rcases this with h | h
      · exact .inl (blt_lt h)
      · cases hmk : maker is p.1 with
        | none => simp [hmk] at h
        | some j => simp only [hmk] at h; exact .inr ⟨j, rfl, h⟩
  have hop : ∀ i x, is[i]? = some x → ∃ o, l.toArray[i]? = some o := fun i x hx => ⟨_, Array.getElem?_eq_getElem (by have := (List.getElem?_eq_some_iff.1 hx).1; omega)⟩
  have hix : ∀ (i : Nat) (o : Oper), l.toArray[i]? = some o → ∃ x, is[i]? = some x := fun i o ho => ⟨_, List.getElem?_eq_getElem (by
    have : i < l.toArray.size := by
      rcases Nat.lt_or_ge i l.toArray.size with h | h
      · exact h
      · rw [Array.getElem?_eq_none h] at ho; cases ho
    omega)⟩
  refine wp_region_any hm ?_
  have hR' := rel_drew hR
  refine wpAny_draw (P := P) (N := N) (cx := cx) (base := st) (is := is) hlen n3 c2 ?_ ?_ ?_ ?_ ?_ ?_ _ _ _ _ E (by simp) ?_ ?_ ?_
  · intro i ob h; exact obLt_ok hol h
  · intro i o ho; obtain ⟨x, hx⟩ := hix i o ho; exact (hall i x o hx ho).1
  · intro i x hx; obtain ⟨o, ho⟩ := hop i x hx; exact (hall i x o hx ho).2.1
  · intro i x hx; obtain ⟨o, ho⟩ := hop i x hx; exact (hall i x o hx ho).2.2
  · intro i o x ho hx; exact n2 i o x (by simpa using ho) hx
  · intro listed a' w' E' hdone hI
    refine ⟨E', st', ⟨hI.ok, fun l' x' hl => ?_, fun l' ob hl => ?_, fun k => ?_, hI.dfr, hI.size, fun l' b' h' => Nat.lt_of_lt_of_le (hI.td l' b' h') (labs_range n3).1⟩, n7⟩
    · have hr := labs_range n3
      rcases hI.dom l' x' hl with h | ⟨j, y, ob, _, h2, h3⟩
      · omega
      · have := hr.2 j y l' ob h2 h3; omega
    · rw [n5] at hl
      rcases go_obAt _ _ _ hl with ⟨j, x', hj, hx'⟩ | h
      · exact hI.new j x' l' ob (hdone j (by have := (List.getElem?_eq_some_iff.1 hj).1; omega)) hj hx'
      · exact hI.obs l' ob h
    · rw [n4 k]
      cases hw : writer is k with
      | none =>
        have hno : ∀ z ∈ is, z.d ≠ k := by
          intro z hz e
          have := List.findIdx?_eq_none_iff.1 hw z hz
          rw [e] at this; simp at this
        rw [slAt_gt _ _ hno]
        exact hI.old k fun j y _ hy => hno y (List.mem_of_getElem? hy)
      | some j =>
        obtain ⟨hjl, hjp, _⟩ := List.findIdx?_eq_some_iff_getElem.1 hw
        have hjd : is[j].d = k := Nat.eq_of_beq_eq_true hjp
        have := hI.out j is[j] (hdone j (by omega)) (List.getElem?_eq_getElem hjl)
        have h9 := slAt_gt_of (base := st) is j is[j] (List.getElem?_eq_getElem hjl) (fun j' y hy he => dsts_inj c2 j' j y is[j] hy (List.getElem?_eq_getElem hjl) he)
        rw [hjd] at h9 this
        rw [h9]; exact this
  · rw [List.filter_eq_self.2]
    · simp
    · intro i hi; rw [rep_getD]; rfl
  · intro i o ho hd; rw [rep_getD] at hd; cases hd
  · refine ⟨hR'.ok, fun l' x' hl => .inl (hR'.dom l' x' hl), hR'.obs, (fun j y l' ob hd => by rw [rep_getD] at hd; cases hd), (fun j y hd => by rw [rep_getD] at hd; cases hd), fun k _ => hR'.sl k, hR'.dfr, hR'.size, hR'.td⟩
end Go.AM
