/-
  The abstract machine, part Zh: the rule for a region that draws its order and writes.
-/
import Derived.Test.YtnhgchfpccpcdaaAmZg
set_option linter.unusedVariables false
namespace Go.AM
open Go.RowKit
/-- A writing operation that stands alone. -/
def BO (P : Program) (N : Nat) (ops : Array Oper) (o : Oper) (st st' : St) : Prop :=
  (o.guard = none ∧ AWO P N o st st') ∨ (∃ j dj b, o.guard = some (j, b) ∧ (ops[j]?).bind (·.dst) = some dj ∧ dj < N ∧ gt st.sl dj = tB b ∧ AWO P N o st st')
def barOK (ops : Array Oper) (h : Nat) : Bool := (List.range ops.size).all fun j => Nat.ble j h || anc ops ops.size j h
def DZ (P : Program) (N : Nat) (ops : Array Oper) : List Oper → Nat → List Inx → St → St → (St → Prop) → Prop
  | [], lo, ys, _, st, K => segOK ops lo ys = true ∧ K st
  | o :: r, lo, ys, base, st, K =>
    (∃ y st1 st', DS2 P N ops o st st1 y ∧ Same st1 st' ∧ DZ P N ops r lo (ys ++ [y]) base st' K) ∨
    (segOK ops lo ys = true ∧ barOK ops (lo + ys.length) = true ∧ ∃ st0 st1 st2, Weak N st st0 ∧ BO P N ops o st0 st1 ∧ Weak N st1 st2 ∧ DZ P N ops r (lo + ys.length + 1) [] st2 st2 K)
section
variable {P : Program} {N : Nat} {cx : Cx} {ops : Array Oper} {base : St} {lo : Nat} {ys : List Inx} {Q : Exit → Act → World → Prop}
theorem segOK_ok (h : segOK ops lo ys = true) : dstsOk (infs ys) = true ∧ lo + ys.length ≤ ops.size ∧
    (∀ i y, ys[i]? = some y → ∀ k ∈ slotsOf y.x.needs, ∀ j, writer (infs ys) k = some j → if nlt j i then anc ops ops.size (lo + i) (lo + j) = true else (i = j ∨ anc ops ops.size (lo + j) (lo + i) = true)) ∧
    (∀ i y, ys[i]? = some y → ∀ l ∈ labsOf y, ∀ j z, ys[j]? = some z → touch z l = true → if nlt j i then anc ops ops.size (lo + i) (lo + j) = true else (i = j ∨ anc ops ops.size (lo + j) (lo + i) = true)) ∧
    (∀ j, j < ops.size → lo + ys.length ≤ j → ∀ i, i < ys.length → anc ops ops.size j (lo + i) = true) := by
  simp only [segOK, Bool.and_eq_true] at h
  obtain ⟨⟨⟨h1, h2⟩, h3⟩, h4⟩ := h
  have key : ∀ (i j : Nat), (if nlt j i then anc ops ops.size (lo + i) (lo + j) else Nat.beq i j || anc ops ops.size (lo + j) (lo + i)) = true → if nlt j i then anc ops ops.size (lo + i) (lo + j) = true else (i = j ∨ anc ops ops.size (lo + j) (lo + i) = true) := by
    intro i j h
    split
    · rename_i hji; simpa [hji] using h
    · rename_i hji
      simp only [hji, Bool.false_eq_true, if_false, Bool.or_eq_true] at h
      rcases h with h | h
      · exact .inl (Nat.eq_of_beq_eq_true h)
      · exact .inr h
  refine ⟨h1, Nat.le_of_ble_eq_true h2, fun i y hy k hk j hj => ?_, fun i y hy l hl j z hz ht => ?_, fun j hj hh i hi => ?_⟩
  · have hil := (List.getElem?_eq_some_iff.1 hy).1
    have := List.all_eq_true.1 h3 i (by simpa using hil)
    simp only [hy, Bool.and_eq_true] at this
    have := List.all_eq_true.1 this.1 k hk
    simp only [hj] at this
    exact key i j this
  · have hil := (List.getElem?_eq_some_iff.1 hy).1
    have hjl := (List.getElem?_eq_some_iff.1 hz).1
    have := List.all_eq_true.1 h3 i (by simpa using hil)
    simp only [hy, Bool.and_eq_true] at this
    have := List.all_eq_true.1 (List.all_eq_true.1 this.2 l hl) j (by simpa using hjl)
    simp only [hz, ht, Bool.not_true, Bool.false_or] at this
    exact key i j this
  · have := List.all_eq_true.1 h4 j (by simpa using hj)
    rw [Bool.or_eq_true] at this
    rcases this with h | h
    · have := blt_lt h; omega
    · exact List.all_eq_true.1 h i (by simpa using hi)
theorem inv2_rel {listed : Array Bool} {a : Act} {w : World} {E : Env} {st : St} (hI : Inv2 N cx base lo ys listed a w E) (hdst : dstsOk (infs ys) = true) (hdone : ∀ j, j < ys.length → listed.getD (lo + j) false = true)
    (h1 : ∀ k, gt st.sl k = gt (slAt base (infs ys)) k) (h2 : st.ob = obX base ys) (h3 : LabsFrom base.nx (infs ys) st.nx) : Rel N cx E st a w := by
  have hr := labs_range h3
  refine ⟨hI.ok, fun l' x' hl => ?_, fun l' ob hl => ?_, fun k => ?_, hI.dfr, hI.size, fun l' b' h' => Nat.lt_of_lt_of_le (hI.td l' b' h') hr.1⟩
  · rcases hI.dom l' x' hl with h | ⟨j, y, ob, _, h4, h5⟩
    · omega
    · have := hr.2 j y.x l' ob (by simp [infs, h4]) h5; omega
  · refine hI.obs l' ob ?_
    rw [← hl, h2, obX]
    refine obF_congr rfl (fun j z hz hj => ?_)
    rw [Nat.zero_add]
    exact hdone j (List.getElem?_eq_some_iff.1 hz).1
  · rw [h1 k]
    cases hw : writer (infs ys) k with
    | none =>
      have hno : ∀ z ∈ infs ys, z.d ≠ k := by
        intro z hz e
        have := List.findIdx?_eq_none_iff.1 hw z hz
        rw [e] at this; simp at this
      rw [slAt_gt _ _ hno]
      exact hI.old k fun j y _ hy => hno y.x (List.mem_map.2 ⟨y, List.mem_of_getElem? hy, rfl⟩)
    | some j =>
      obtain ⟨hjl, hjp, _⟩ := List.findIdx?_eq_some_iff_getElem.1 hw
      have hjd : (infs ys)[j].d = k := Nat.eq_of_beq_eq_true hjp
      have hjl' : j < ys.length := by simpa [infs] using hjl
      have h5 : (infs ys)[j] = (ys[j]).x := by simp [infs]
      have := hI.out j ys[j] (hdone j hjl') (List.getElem?_eq_getElem hjl')
      have h9 := slAt_gt_of (base := base) (infs ys) j (infs ys)[j] (List.getElem?_eq_getElem hjl) (fun j' y hy he => dsts_inj hdst j' j y (infs ys)[j] hy (List.getElem?_eq_getElem hjl) he)
      rw [hjd] at h9
      rw [← h5, hjd] at this
      rw [h9]; exact this
theorem rel_inv2 {listed : Array Bool} {a : Act} {w : World} {E : Env} (hR : Rel N cx E base a w) (hl : ∀ j, lo ≤ j → listed.getD j false = false) : Inv2 N cx base lo ys listed a w E := by
  refine ⟨hR.ok, fun l x h => .inl (hR.dom l x h), fun l ob h => ?_, fun j y h => ?_, fun k _ => hR.sl k, hR.dfr, hR.size, hR.td⟩
  · refine hR.obs l ob ?_
    have e : obF (fun j => listed.getD (lo + j) false) 0 ys base.ob = base.ob := by
      rw [obF_take (n := 0) (fun j => by rw [hl _ (by omega)]; simp)]; simp [obF]
    rwa [e] at h
  · rw [hl _ (by omega)] at h; cases h
theorem dz_ok {K : St → Prop} (hedge : ∀ i o, ops[i]? = some o → ∀ e ∈ o.after, Region.binds .any e = true → e.on < i) (hQ : ∀ E st a w, Rel N cx E st a w → K st → Q .normal a w) :
    ∀ {l : List Oper} {lo : Nat} {ys : List Inx} {base st : St}, DZ P N ops l lo ys base st K → (∀ i, ops[lo + ys.length + i]? = l[i]?) →
      (∀ (i : Nat) (o : Oper) (y : Inx), ops[lo + i]? = some o → ys[i]? = some y → Told2 P N ops base (ys.take i) o y) →
      (∀ k, gt st.sl k = gt (slAt base (infs ys)) k) → st.ob = obX base ys → LabsFrom base.nx (infs ys) st.nx →
      ∀ (listed : Array Bool) (a : Act) (w : World) (E : Env), listed.size = ops.size → Closed ops listed → (∀ j, listed.getD j false = decide (j < lo)) → Rel N cx E base a w → wpAny P .any ops Q (unl ops listed) listed a w := by
  intro l
  induction l with
  | nil =>
    intro lo ys base st hD hops htold h1 h2 h3 listed a w E hsz hcl hls hR
    obtain ⟨hseg, hK⟩ := hD
    obtain ⟨c1, c2, c3, c4, c5⟩ := segOK_ok hseg
    refine wpAny_seg hedge c2 h3 c1 c3 c4 c5 htold (fun listed' a' w' E' hsz' hcl' hls' hI' => ?_) _ listed a w E rfl hsz hcl (fun j hj => by rw [hls j]; simp [hj]) (fun j hj => by rw [hls j]; simp; omega) (rel_inv2 hR (fun j hj => by rw [hls j]; simp [hj]))
    have hend : lo + ys.length = ops.size := by
      have := hops 0
      simp only [Nat.add_zero, List.getElem?_nil] at this
      rcases Nat.lt_or_ge (lo + ys.length) ops.size with h | h
      · rw [Array.getElem?_eq_getElem h] at this; cases this
      · omega
    have hu : unl ops listed' = 0 := by
      unfold unl
      rw [List.length_eq_zero_iff, List.filter_eq_nil_iff]
      intro j hj
      rw [hls' j]
      simp at hj ⊢
      omega
    rw [hu]
    refine ⟨?_, hQ E' st a' w' (inv2_rel hI' c1 (fun j hj => by rw [hls']; simp; omega) h1 h2 h3) hK⟩
    rw [List.eq_nil_iff_forall_not_mem]
    intro i hi
    obtain ⟨k1, k2, _⟩ := ready_at hsz' hi
    rw [hls' i] at k2
    simp at k2
    omega
  | cons o r ih =>
    intro lo ys base st hD hops htold h1 h2 h3 listed a w E hsz hcl hls hR
    rcases hD with ⟨y, st1, st', hds, hsame, hr⟩ | ⟨hseg, hbar, st0, st1, st2, hw0, hbo, hw1, hr⟩
    · obtain ⟨k1, k2, k3, k4⟩ := told_step hds hsame h1 h2 h3
      refine ih hr (fun i => ?_) (fun i o' y' ho' hy' => ?_) k2 k3 k4 listed a w E hsz hcl hls hR
      · have := hops (i + 1)
        simp only [List.length_append, List.length_cons, List.length_nil, List.getElem?_cons_succ] at this ⊢
        rwa [show lo + (ys.length + (0 + 1)) + i = lo + ys.length + (i + 1) from by omega]
      · rcases Nat.lt_or_ge i ys.length with h | h
        · rw [List.getElem?_append_left h] at hy'
          rw [List.take_append_of_le_length (by omega)]
          exact htold i o' y' ho' hy'
        · have hi : i = ys.length := by
            have := (List.getElem?_eq_some_iff.1 hy').1
            simp at this; omega
          subst hi
          simp at hy'
          subst hy'
          rw [List.take_left]
          have := hops 0
          simp at this
          rw [this] at ho'
          cases ho'
          exact k1
    · obtain ⟨c1, c2, c3, c4, c5⟩ := segOK_ok hseg
      have hat : ops[lo + ys.length]? = some o := by have := hops 0; simpa using this
      have hlt : lo + ys.length < ops.size := by
        rcases Nat.lt_or_ge (lo + ys.length) ops.size with h | h
        · exact h
        · rw [Array.getElem?_eq_none h] at hat; cases hat
      refine wpAny_seg hedge c2 h3 c1 c3 c4 c5 htold (fun listed' a' w' E' hsz' hcl' hls' hI' => ?_) _ listed a w E rfl hsz hcl (fun j hj => by rw [hls j]; simp [hj]) (fun j hj => by rw [hls j]; simp; omega) (rel_inv2 hR (fun j hj => by rw [hls j]; simp [hj]))
      have hun : listed'.getD (lo + ys.length) false = false := by rw [hls']; simp
      have hRel := inv2_rel hI' c1 (fun j hj => by rw [hls']; simp; omega) h1 h2 h3
      have hus := unl_step (ops := ops) hsz' hlt hun
      rw [hus]
      refine ⟨fun h0 => absurd h0 (ready_some hedge hsz' hus), fun p hp => ?_⟩
      obtain ⟨hio, hunp, o', ho', hd⟩ := ready_at hsz' hp
      have hp : p = lo + ys.length := by
        rw [hls' p] at hunp
        simp at hunp
        rcases Nat.lt_or_ge (lo + ys.length) p with h | h
        · have hb := List.all_eq_true.1 hbar p (by simpa using hio)
          rw [Bool.or_eq_true] at hb
          rcases hb with hb | hb
          · have := Nat.le_of_ble_eq_true hb; omega
          · have := anc_listed hcl' hb ⟨o', ho', hd⟩
            rw [hun] at this; cases this
        · omega
      subst hp
      rw [hat] at ho'
      cases ho'
      obtain ⟨E0, hR0⟩ := hw0 cx E' a' w' hRel
      have hrun : ∀ (h : AWO P N o st0 st1), o.wp P a' w' (wpAny P .any ops Q (unl ops (listed'.setIfInBounds (lo + ys.length) true)) (listed'.setIfInBounds (lo + ys.length) true)) Q := by
        intro h
        refine wp_monoQ (fun _ _ _ h => h.elim) (Oper.wp_mono ?_ (h cx E0 a' w' hR0))
        rintro a2 w2 ⟨E2, hR2⟩
        obtain ⟨E3, hR3⟩ := hw1 cx E2 a2 w2 hR2
        refine ih hr (fun i => ?_) (fun i o' y' ho' hy' => by simp at hy') (fun k => rfl) rfl rfl _ a2 w2 E3 (by simpa using hsz') (closed_step hsz' hlt hat hd hcl') (fun j => ?_) hR3
        · have := hops (i + 1)
          simp only [List.length_nil, Nat.add_zero, List.getElem?_cons_succ] at this ⊢
          rwa [show lo + ys.length + 1 + i = lo + ys.length + (i + 1) from by omega]
        · rw [getD_listed (by omega)]
          split
          · simp; omega
          · rw [hls' j]
            simp only [decide_eq_decide]
            omega
      unfold wpOp
      simp only [hat]
      rcases hbo with ⟨hg, hawo⟩ | ⟨j, dj, b, hg, hj, hdj, hb, hawo⟩
      · rw [if_pos (by simp [Region.wanted, hg])]
        exact .inl (hrun hawo)
      · have hy := yield_bool (ops := ops) hR0 hj hdj hb
        rw [if_pos (by simp [Region.wanted, hg, hy])]
        exact .inl (hrun hawo)
end
theorem awc_dz {P : Program} {N id : Nat} {l : List Oper} {st : St} {AQ : Exit → St → Prop} (hm : P.follows .mixedOrders = true) (he : edgesOK l.toArray = true)
    (h : DZ P N l.toArray l 0 [] st st (fun s => AQ .normal s)) : AWC P N (.region id l.toArray true) st AQ := by
  intro cx E a w hR
  refine wp_region_any hm ?_
  have hR' := rel_drew hR
  have hedge : ∀ i o, l.toArray[i]? = some o → ∀ e ∈ o.after, Region.binds .any e = true → e.on < i := by
    intro i o ho e hm hb
    have hi : i < l.toArray.size := by
      rcases Nat.lt_or_ge i l.toArray.size with h | h
      · exact h
      · rw [Array.getElem?_eq_none h] at ho; cases ho
    have := List.all_eq_true.1 he i (by simpa using hi)
    simp only [ho] at this
    have := List.all_eq_true.1 this e (by simpa using hm)
    simp only [hb, Bool.not_true, Bool.false_or] at this
    exact blt_lt this
  have hfull : unl l.toArray (Array.replicate l.toArray.size false) = l.toArray.size := by
    unfold unl
    rw [List.filter_eq_self.2]
    · simp
    · intro i hi; rw [rep_getD]; rfl
  have := dz_ok (P := P) (cx := cx) (Q := lift N cx AQ) hedge (fun E st a w hR hK => ⟨E, st, hR, hK⟩) h (fun i => by simp) (fun i o y _ hy => by simp at hy) (fun k => rfl) rfl rfl (Array.replicate l.toArray.size false) a _ E (by simp) (fun i o ho hd => by rw [rep_getD] at hd; cases hd) (fun j => by rw [rep_getD]; simp) hR'
  rw [hfull] at this
  exact this
section
variable {P : Program} {N : Nat} {ops : Array Oper} {l : List Oper} {o : Oper} {st st' base : St} {x : Inf} {y : Inx} {K : St → Prop} {ys : List Inx} {lo : Nat}
theorem dz_nil (hs : segOK ops lo ys = true) (h : K st) : DZ P N ops [] lo ys base st K := ⟨hs, h⟩
theorem dz_n (hg : o.guard = none) (h : NS P N o st st' x) (h' : DZ P N ops l lo (ys ++ [⟨x, []⟩]) base st' K) : DZ P N ops (o :: l) lo ys base st K := .inl ⟨_, st', st', .inl ⟨hg, nx_of_ns h⟩, .refl _, h'⟩
theorem dz_ng {j : Nat} {dj : Tmp} {b : Bool} (hg : o.guard = some (j, b)) (hj : (ops[j]?).bind (·.dst) = some dj) (hdj : nlt dj N = true) (hb : gt st.sl dj = tB b) (h : NS P N o st st' x)
    (h' : DZ P N ops l lo (ys ++ [⟨{ x with needs := (.tmp dj, tB b) :: x.needs }, []⟩]) base st' K) : DZ P N ops (o :: l) lo ys base st K := .inl ⟨_, st', st', .inr (.inl ⟨j, dj, b, _, hg, hj, blt_lt hdj, hb, nx_of_ns h, rfl⟩), .refl _, h'⟩
/-- A call among others that writes what is handed to it. -/
theorem dz_w (hg : o.guard = none) (h : NX P N o st st' y) (h' : DZ P N ops l lo (ys ++ [y]) base st' K) : DZ P N ops (o :: l) lo ys base st K := .inl ⟨_, st', st', .inl ⟨hg, h⟩, .refl _, h'⟩
theorem dz_wg {j : Nat} {dj : Tmp} {b : Bool} (hg : o.guard = some (j, b)) (hj : (ops[j]?).bind (·.dst) = some dj) (hdj : nlt dj N = true) (hb : gt st.sl dj = tB b) (h : NX P N o st st' y)
    (h' : DZ P N ops l lo (ys ++ [⟨{ y.x with needs := (.tmp dj, tB b) :: y.x.needs }, y.up⟩]) base st' K) : DZ P N ops (o :: l) lo ys base st K := .inl ⟨_, st', st', .inr (.inl ⟨j, dj, b, _, hg, hj, blt_lt hdj, hb, h, rfl⟩), .refl _, h'⟩
theorem dz_skip {j : Nat} {dj d : Tmp} {b : Bool} (hg : o.guard = some (j, b)) (hj : (ops[j]?).bind (·.dst) = some dj) {t : T} (hdj : nlt dj N = true) (ht : gt st.sl dj = t) (hb : noG b t = true) (hd : o.dst = some d) (hN : nlt d N = true)
    (h' : DZ P N ops l lo (ys ++ [⟨⟨d, [(.tmp dj, t)], [], .tup [], []⟩, []⟩]) base ⟨(d, .tup []) :: st.sl, st.ob, st.nx⟩ K) : DZ P N ops (o :: l) lo ys base st K :=
  .inl ⟨_, _, _, .inr (.inr ⟨j, dj, b, d, hg, hj, blt_lt hdj, by rw [ht]; exact hb, hd, blt_lt hN, by rw [ht], rfl⟩), .refl _, h'⟩
theorem bo_n {st0 st1 : St} (hg : o.guard = none) (h : AWO P N o st0 st1) : BO P N ops o st0 st1 := .inl ⟨hg, h⟩
theorem bo_g {st0 st1 : St} {j : Nat} {dj : Tmp} {b : Bool} (hg : o.guard = some (j, b)) (hj : (ops[j]?).bind (·.dst) = some dj) (hdj : nlt dj N = true) (hb : gt st0.sl dj = tB b) (h : AWO P N o st0 st1) : BO P N ops o st0 st1 := .inr ⟨j, dj, b, hg, hj, blt_lt hdj, hb, h⟩
theorem weak_id {s : St} : Weak N s s := fun _ E _ _ h => ⟨E, h⟩
/-- Any other writing operation: it parts the region. -/
theorem dz_bar {st0 st1 st2 : St} (hs : segOK ops lo ys = true) (hb : barOK ops (lo + ys.length) = true) (hw : Weak N st st0) (h : BO P N ops o st0 st1) (hw2 : Weak N st1 st2) {lo' : Nat} (hlo : lo + ys.length + 1 = lo') (h' : DZ P N ops l lo' [] st2 st2 K) : DZ P N ops (o :: l) lo ys base st K := by
  subst hlo
  exact .inr ⟨hs, hb, st0, st1, st2, hw, h, hw2, h'⟩
theorem nx_same {st2 : St} (h : Same st st2) (hn : NX P N o st2 st' y) : ∃ s', NX P N o st s' y ∧ Same s' st' := by
  obtain ⟨h1, h2, h3, h4, h5, h6, h7⟩ := hn
  refine ⟨⟨(y.x.d, y.x.out) :: st.sl, y.x.nw ++ (y.up ++ st.ob), st'.nx⟩, ⟨h1, h2, h3, Lk_same (fun k => (h.1 k).symm) h4, by rw [h.2.1]; exact h5, by rw [h.2.2]; exact h6, rfl⟩, ?_⟩
  rw [h7]
  refine ⟨fun k => ?_, ?_, rfl⟩
  · by_cases hk : y.x.d = k
    · subst hk; rw [gt_same, gt_same]
    · rw [gt_other _ _ hk, gt_other _ _ hk]; exact h.1 k
  · show y.x.nw ++ (y.up ++ st.ob) = y.x.nw ++ (y.up ++ st2.ob)
    rw [h.2.1]
theorem same_weak {s t : St} (h : Same s t) : Weak N s t := fun cx E a w hR => ⟨E, hR.ok, fun o x ho => by rw [← h.2.2]; exact hR.dom o x ho, fun o ob ho => hR.obs o ob (by rw [h.2.1]; exact ho), fun k => by rw [← h.1 k]; exact hR.sl k, hR.dfr, hR.size, fun l b hb => by rw [← h.2.2]; exact hR.td l b hb⟩
theorem dz_same {st2 : St} (h : Same st st2) (hd : DZ P N ops (o :: l) lo ys base st2 K) : DZ P N ops (o :: l) lo ys base st K := by
  rcases hd with ⟨y, st1, st', hds, hsame, hr⟩ | ⟨hs, hb, st0, st1, st3, hw, hbo, hw2, hr⟩
  · left
    rcases hds with ⟨hg, hn⟩ | ⟨j, dj, b, z, hg, hj, hdj, hb, hn, rfl⟩ | ⟨j, dj, b, d, hg, hj, hdj, hb, hd, hN, rfl, rfl⟩
    · obtain ⟨s', k1, k2⟩ := nx_same h hn
      exact ⟨y, s', st', .inl ⟨hg, k1⟩, k2.trans hsame, hr⟩
    · obtain ⟨s', k1, k2⟩ := nx_same h hn
      exact ⟨_, s', st', .inr (.inl ⟨j, dj, b, z, hg, hj, hdj, by rw [h.1]; exact hb, k1, rfl⟩), k2.trans hsame, hr⟩
    · refine ⟨_, ⟨(d, .tup []) :: st.sl, st.ob, st.nx⟩, st', .inr (.inr ⟨j, dj, b, d, hg, hj, hdj, by rw [h.1]; exact hb, hd, hN, by rw [h.1], rfl⟩), Same.trans (b := ⟨(d, .tup []) :: st2.sl, st2.ob, st2.nx⟩) ⟨fun k => ?_, h.2.1, h.2.2⟩ hsame, hr⟩
      show gt ((d, T.tup []) :: st.sl) k = gt ((d, T.tup []) :: st2.sl) k
      by_cases hk : d = k
      · subst hk; rw [gt_same, gt_same]
      · rw [gt_other _ _ hk, gt_other _ _ hk]; exact h.1 k
  · exact .inr ⟨hs, hb, st0, st1, st3, weak_trans (same_weak h) hw, hbo, hw2, hr⟩
theorem dz_split {d : Tmp} {b : Bool} (hb : gt st.sl d = tB b) (h1 : b = true → DZ P N ops (o :: l) lo ys base ⟨(d, tB true) :: st.sl, st.ob, st.nx⟩ K) (h0 : b = false → DZ P N ops (o :: l) lo ys base ⟨(d, tB false) :: st.sl, st.ob, st.nx⟩ K) : DZ P N ops (o :: l) lo ys base st K := by
  cases hc : b with
  | true => exact dz_same (same_decide hb hc) (h1 hc)
  | false => exact dz_same (same_decide hb hc) (h0 hc)
theorem dz_mono {K K' : St → Prop} (hk : ∀ s, K s → K' s) : ∀ {l : List Oper} {lo : Nat} {ys : List Inx} {base st : St}, DZ P N ops l lo ys base st K → DZ P N ops l lo ys base st K'
  | [], _, _, _, _, h => ⟨h.1, hk _ h.2⟩
  | o :: l, _, _, _, _, h => by
    rcases h with ⟨y, st1, st', h1, h2, h3⟩ | ⟨h1, h2, st0, st1, st2, h3, h4, h5, h6⟩
    · exact .inl ⟨y, st1, st', h1, h2, dz_mono hk h3⟩
    · exact .inr ⟨h1, h2, st0, st1, st2, h3, h4, h5, dz_mono hk h6⟩
theorem dz_join (M : St) [c : CloK N K] (h1 : DZ P N ops l lo ys base st (fun s => Weak N s M)) (h2 : K M) : DZ P N ops l lo ys base st K := dz_mono (fun s h => c.h _ _ h h2) h1
end
section
variable {P : Program} {N : Nat} {ops : Array Oper} {l : List Oper} {o : Oper} {sl : List (Nat × T)} {ob : List (Nat × Ob)} {nx : Nat} {base : St} {K : St → Prop} {ys : List Inx} {lo : Nat}
theorem zgs {j : Nat} {dj d : Tmp} {b : Bool} {t : T} (hg : o.guard = some (j, b)) (hj : (ops[j]?).bind (·.dst) = some dj) (hdj : nlt dj N = true) (ht : gt sl dj = t) (hb : noG b t = true) (hd : o.dst = some d) (hN : nlt d N = true)
    (h' : DZ P N ops l lo (ys ++ [⟨⟨d, [(.tmp dj, t)], [], .tup [], []⟩, []⟩]) base ⟨(d, .tup []) :: sl, ob, nx⟩ K) : DZ P N ops (o :: l) lo ys base ⟨sl, ob, nx⟩ K := dz_skip (st := ⟨sl, ob, nx⟩) hg hj hdj ht hb hd hN h'
theorem zg2 {j : Nat} {dj : Tmp} {b c : Bool} (hg : o.guard = some (j, b)) (hj : (ops[j]?).bind (·.dst) = some dj) (hb : gt sl dj = tB c)
    (h1 : c = true → DZ P N ops (o :: l) lo ys base ⟨(dj, tB true) :: sl, ob, nx⟩ K) (h0 : c = false → DZ P N ops (o :: l) lo ys base ⟨(dj, tB false) :: sl, ob, nx⟩ K) : DZ P N ops (o :: l) lo ys base ⟨sl, ob, nx⟩ K := dz_split (st := ⟨sl, ob, nx⟩) hb h1 h0
/-- A call that writes one thing, among other operations. -/
theorem cwx {d : Tmp} {ty : TypeId} {ps : String} {af : Array Edge} {gd : Option (Nat × Bool)} {f : FuncId} {args : List Operand} {tys : Array TypeId} {ob' : List (Nat × Ob)} {o : Nat} {x0 x1 y : Ob} {ts ts' : List T} {eqs : List (Nat × Nat)} {res : List RV} {out : T} {nw : List (Nat × Ob)} {n : Nat}
    (hF : FnW P f x1 ts' y res) (ht : opTs sl args = some ts) (ho : go ob o = some x0) (hl : x0.loc = x1) (hfx : x0.free = true) (hfy : y.free = true) (ha : locTs [] o ts = some (ts', eqs)) (he : Eqs eqs) (hi : impR nx res = some (out, nw, n)) (hw : nwOk nx nw n = true) (hN : nlt d N = true) (hob : apO nw ((o, y) :: ob) = some ob') :
    NX P N ⟨some d, .call ⟨.value (.func f), args.toArray, tys⟩, ty, ps, af, gd⟩ ⟨sl, ob, nx⟩ ⟨(d, out) :: sl, ob', n⟩ ⟨⟨d, args.zip ts, [(o, x0)], out, nw⟩, [(o, y)]⟩ := by
  subst hl
  rw [apO_eq hob]
  obtain ⟨t1, t2⟩ := opTs_ok ht
  exact ⟨awx_callW hF t1 hfx hfy ha he hi, rfl, blt_lt hN, t2, ⟨ho, trivial⟩, nwOk_ok hw, rfl⟩
end
end Go.AM
