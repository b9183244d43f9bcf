/-
  The abstract machine, part Zh: the rule for a region that draws its order and writes.
-/
import Derived.Test.YtlpclccdbmoemaaGreatAmZg
set_option linter.unusedVariables false
namespace Go.AM
open Go.RowKit
/-- A writing operation that stands alone. -/
def BO (P : Program) (N : Nat) (ops : Array Oper) (o : Oper) (st st' : St) : Prop :=
  (o.guard = none ∧ AWO P N o st st') ∨ (∃ j dj b, o.guard = some (j, b) ∧ (ops[j]?).bind (·.dst) = some dj ∧ dj < N ∧ gt st.sl dj = tB b ∧ AWO P N o st st')
def barOK (ops : Array Oper) (done : List Nat) (h : Nat) : Bool := !memN done h && (List.range ops.size).all fun j => Nat.beq j h || memN done j || anc ops ops.size j h
/-- The labels that the operations give up. -/
def kls : List Inx → List Nat
  | [] => []
  | y :: ys => match y.kl with
    | some d => d :: kls ys
    | none => kls ys
theorem mem_kls {d : Nat} : ∀ {ys : List Inx} {y : Inx}, y ∈ ys → y.kl = some d → d ∈ kls ys
  | z :: zs, y, hm, hk => by
    rcases List.mem_cons.1 hm with rfl | hm
    · simp [kls, hk]
    · have := mem_kls hm hk
      unfold kls
      split
      · exact List.mem_cons_of_mem _ this
      · exact this
/-- What is left of a state behind them. -/
def Clean (ys : List Inx) (st s : St) : Prop :=
  (∀ k, gt s.sl k = .any ∨ (gt s.sl k = gt st.sl k ∧ ∀ d ∈ kls ys, (gt st.sl k).has d = false)) ∧ (∀ l x, go s.ob l = some x → go st.ob l = some x ∧ ∀ d ∈ kls ys, l ≠ d ∧ x.hasO d = false) ∧ s.nx = st.nx
theorem clean_none {ys : List Inx} {st : St} (h : kls ys = []) : Clean ys st st := by
  refine ⟨fun k => .inr ⟨rfl, ?_⟩, fun l x hl => ⟨hl, ?_⟩, rfl⟩ <;> (rw [h]; intro d hd; cases hd)
theorem clean_kill {ys : List Inx} {ds : List Nat} {sl sl' : List (Nat × T)} {ob ob' : List (Nat × Ob)} {nx : Nat} (h : kls ys = ds) (hk : killA ds sl ob = some (sl', ob')) : Clean ys ⟨sl, ob, nx⟩ ⟨sl', ob', nx⟩ := by
  obtain ⟨h1, h2⟩ := killA_ok hk
  subst h
  exact ⟨h1, h2, rfl⟩
/-- Operations with their places, in an order of our own; 'done': places behind us; 'seg': places of the segment that is under way. -/
def DZ (P : Program) (N : Nat) (ops : Array Oper) : List (Nat × Oper) → List Nat → List Nat → List Inx → St → St → (St → Prop) → Prop
  | [], done, seg, ys, _, st, K => segOK ops done seg ys = true ∧ ∃ s, Clean ys st s ∧ K s
  | (p, o) :: r, done, seg, ys, base, st, K =>
    (∃ y st1 st', DS2 P N ops o st st1 y ∧ Same st1 st' ∧ DZ P N ops r done (seg ++ [p]) (ys ++ [y]) base st' K) ∨
    (segOK ops done seg ys = true ∧ barOK ops (seg ++ done) p = true ∧ ∃ s st0 st1 st2, Clean ys st s ∧ Weak N s st0 ∧ BO P N ops o st0 st1 ∧ Weak N st1 st2 ∧ DZ P N ops r (p :: (seg ++ done)) [] [] st2 st2 K)
theorem memN_iff {l : List Nat} {n : Nat} : memN l n = true ↔ n ∈ l := by
  simp only [memN, List.any_eq_true]
  constructor
  · rintro ⟨k, h1, h2⟩; rw [← Nat.eq_of_beq_eq_true h2]; exact h1
  · intro h; exact ⟨n, h, by simp⟩
theorem at0_lt {seg : List Nat} {j : Nat} (h : j < seg.length) : seg[j]? = some (at0 seg j) := by
  unfold at0
  rw [List.getD_eq_getElem?_getD, List.getElem?_eq_getElem h]
  rfl
section
variable {P : Program} {N : Nat} {cx : Cx} {ops : Array Oper} {base : St} {f : Nat → Nat} {done seg : List Nat} {ys : List Inx} {Q : Exit → Act → World → Prop}
theorem segOK_ok (h : segOK ops done seg ys = true) : dstsOk (infs ys) = true ∧ seg.length = ys.length ∧ (seg ++ done).Nodup ∧ (∀ i, i < ys.length → at0 seg i < ops.size) ∧
    (∀ i y, ys[i]? = some y → ∀ k ∈ slotsOf y.x.needs, ∀ j, writer (infs ys) k = some j → if nlt j i then anc ops ops.size (at0 seg i) (at0 seg j) = true else (i = j ∨ anc ops ops.size (at0 seg j) (at0 seg i) = true)) ∧
    (∀ i y, ys[i]? = some y → ∀ l ∈ labsOf y, ∀ j z, ys[j]? = some z → touch z l = true → if nlt j i then anc ops ops.size (at0 seg i) (at0 seg j) = true else (i = j ∨ anc ops ops.size (at0 seg j) (at0 seg i) = true)) ∧
    (∀ j, j < ops.size → memN done j = false → (∀ i, i < ys.length → at0 seg i ≠ j) → ∀ i, i < ys.length → anc ops ops.size j (at0 seg i) = true) ∧
    (∀ j z d, ys[j]? = some z → z.kl = some d → ∀ i y, ys[i]? = some y → i ≠ j → speaks y d = true → anc ops ops.size (at0 seg j) (at0 seg i) = true) := by
  simp only [segOK, Bool.and_eq_true] at h
  obtain ⟨⟨⟨⟨⟨⟨h1, h2⟩, h2'⟩, h2''⟩, h3⟩, h4⟩, h5⟩ := h
  have hlen : seg.length = ys.length := Nat.eq_of_beq_eq_true h2
  have key : ∀ (i j : Nat), (if nlt j i then anc ops ops.size (at0 seg i) (at0 seg j) else Nat.beq i j || anc ops ops.size (at0 seg j) (at0 seg i)) = true → if nlt j i then anc ops ops.size (at0 seg i) (at0 seg j) = true else (i = j ∨ anc ops ops.size (at0 seg j) (at0 seg i) = true) := by
    intro i j h
    split
    · rename_i hji; simpa [hji] using h
    · rename_i hji
      simp only [hji, Bool.false_eq_true, if_false, Bool.or_eq_true] at h
      rcases h with h | h
      · exact .inl (Nat.eq_of_beq_eq_true h)
      · exact .inr h
  refine ⟨h1, hlen, nodupO_ok h2', fun i hi => ?_, fun i y hy k hk j hj => ?_, fun i y hy l hl j z hz ht => ?_, fun j hj hd hs i hi => ?_, fun j z d hz hd i y hy hij hs => ?_⟩
  · exact blt_lt (List.all_eq_true.1 h2'' (at0 seg i) (List.mem_of_getElem? (at0_lt (by omega))))
  · have hil := (List.getElem?_eq_some_iff.1 hy).1
    have := List.all_eq_true.1 h3 i (by simpa using hil)
    simp only [hy, Bool.and_eq_true] at this
    have := List.all_eq_true.1 this.1 k hk
    simp only [hj] at this
    exact key i j this
  · have hil := (List.getElem?_eq_some_iff.1 hy).1
    have hjl := (List.getElem?_eq_some_iff.1 hz).1
    have := List.all_eq_true.1 h3 i (by simpa using hil)
    simp only [hy, Bool.and_eq_true] at this
    have := List.all_eq_true.1 (List.all_eq_true.1 this.2 l hl) j (by simpa using hjl)
    simp only [hz, ht, Bool.not_true, Bool.false_or] at this
    exact key i j this
  · have := List.all_eq_true.1 h4 j (by simpa using hj)
    rw [Bool.or_eq_true, Bool.or_eq_true] at this
    rcases this with (h | h) | h
    · rw [hd] at h; cases h
    · obtain ⟨n, hn⟩ := List.getElem?_of_mem (memN_iff.1 h)
      have hns := (List.getElem?_eq_some_iff.1 hn).1
      have := at0_lt hns
      rw [hn] at this
      exact absurd (Option.some.inj this).symm (hs n (by omega))
    · exact List.all_eq_true.1 h (at0 seg i) (List.mem_of_getElem? (at0_lt (by omega)))
  · have hjl := (List.getElem?_eq_some_iff.1 hz).1
    have hil := (List.getElem?_eq_some_iff.1 hy).1
    have h6 := List.all_eq_true.1 h5 j (by simpa using hjl)
    simp only [hz, hd] at h6
    have h7 := List.all_eq_true.1 h6 i (by simpa using hil)
    simp only [hy, hs, Bool.not_true, Bool.or_false, Bool.or_eq_true] at h7
    rcases h7 with h7 | h7
    · exact absurd (Nat.eq_of_beq_eq_true h7) hij
    · exact h7
theorem inv2_rel {listed : Array Bool} {a : Act} {w : World} {E : Env} {st : St} (hI : Inv2 N cx base f ys listed a w E) (hdst : dstsOk (infs ys) = true) (hdone : ∀ j, j < ys.length → listed.getD (f j) false = true)
    (h1 : ∀ k, gt st.sl k = gt (slAt base (infs ys)) k) (h2 : st.ob = obX base ys) (h3 : LabsFrom base.nx (infs ys) st.nx) {s : St} (hC : Clean ys st s) : Rel N cx E s a w := by
  have hr := labs_range h3
  obtain ⟨C1, C2, C3⟩ := hC
  have hDk : ∀ d, Dead f ys listed d → d ∈ kls ys := fun d ⟨j, y, _, hy, hk⟩ => mem_kls (List.mem_of_getElem? hy) hk
  refine ⟨hI.ok, fun l' x' hl => ?_, fun l' ob hl => ?_, fun k => ?_, hI.dfr, hI.size, fun l' b' h' => by rw [C3]; exact Nat.lt_of_lt_of_le (hI.td l' b' h') hr.1⟩
  · rw [C3]; rcases hI.dom l' x' hl with h | ⟨j, y, ob, _, h4, h5⟩
    · omega
    · have := hr.2 j y.x l' ob (by simp [infs, h4]) h5; omega
  · obtain ⟨hl, hn⟩ := C2 l' ob hl
    refine hI.obs l' ob ?_ (fun d hd => hn d (hDk d hd))
    rw [← hl, h2, obX]
    refine obF_congr rfl (fun j z hz hj => ?_)
    rw [Nat.zero_add]
    exact hdone j (List.getElem?_eq_some_iff.1 hz).1
  · rcases C1 k with e | ⟨e, hn⟩
    · rw [e]; trivial
    rw [e]
    have hn' : ∀ d, Dead f ys listed d → (gt st.sl k).has d = false := fun d hd => hn d (hDk d hd)
    rw [h1 k] at hn' ⊢
    cases hw : writer (infs ys) k with
    | none =>
      have hno : ∀ z ∈ infs ys, z.d ≠ k := by
        intro z hz e
        have := List.findIdx?_eq_none_iff.1 hw z hz
        rw [e] at this; simp at this
      rw [slAt_gt _ _ hno] at hn' ⊢
      exact hI.old k (fun j y _ hy => hno y.x (List.mem_map.2 ⟨y, List.mem_of_getElem? hy, rfl⟩)) hn'
    | some j =>
      obtain ⟨hjl, hjp, _⟩ := List.findIdx?_eq_some_iff_getElem.1 hw
      have hjd : (infs ys)[j].d = k := Nat.eq_of_beq_eq_true hjp
      have hjl' : j < ys.length := by simpa [infs] using hjl
      have h5 : (infs ys)[j] = (ys[j]).x := by simp [infs]
      have h9 := slAt_gt_of (base := base) (infs ys) j (infs ys)[j] (List.getElem?_eq_getElem hjl) (fun j' y hy he => dsts_inj hdst j' j y (infs ys)[j] hy (List.getElem?_eq_getElem hjl) he)
      rw [hjd] at h9
      have := hI.out j ys[j] (hdone j hjl') (List.getElem?_eq_getElem hjl') (fun d hd => by rw [← h5, ← h9]; exact hn' d hd)
      rw [← h5, hjd] at this
      rw [h9]; exact this
theorem rel_inv2 {listed : Array Bool} {a : Act} {w : World} {E : Env} (hR : Rel N cx E base a w) (hl : ∀ j, j < ys.length → listed.getD (f j) false = false) : Inv2 N cx base f ys listed a w E := by
  refine ⟨hR.ok, fun l x h => .inl (hR.dom l x h), fun l ob h _ => ?_, fun j y h hy _ => ?_, fun k _ _ => hR.sl k, hR.dfr, hR.size, hR.td⟩
  · refine hR.obs l ob ?_
    rw [obF_congr (q := fun _ => false) (B := base.ob) rfl (fun j z hz hj => by rw [Nat.zero_add]; exact hl j (List.getElem?_eq_some_iff.1 hz).1)] at h
    rw [obF_take (n := 0) (fun j => by simp)] at h
    simpa [obF] using h
  · rw [hl j (List.getElem?_eq_some_iff.1 hy).1] at h; cases h
theorem nodup_at {l : List Nat} (h : l.Nodup) : ∀ (i j : Nat) (x : Nat), l[i]? = some x → l[j]? = some x → i = j := by
  intro i j x hi hj
  obtain ⟨hi', e1⟩ := List.getElem?_eq_some_iff.1 hi
  obtain ⟨hj', e2⟩ := List.getElem?_eq_some_iff.1 hj
  rcases Nat.lt_trichotomy i j with h' | h' | h'
  · exact absurd (e1.trans e2.symm) (List.pairwise_iff_getElem.1 h i j hi' hj' h')
  · exact h'
  · exact absurd (e2.trans e1.symm) (List.pairwise_iff_getElem.1 h j i hj' hi' h')
theorem dz_ok {K : St → Prop} (hedge : ∀ i o, ops[i]? = some o → ∀ e ∈ o.after, Region.binds .any e = true → e.on < i) (hQ : ∀ E st a w, Rel N cx E st a w → K st → Q .normal a w) :
    ∀ {l : List (Nat × Oper)} {done seg : List Nat} {ys : List Inx} {base st : St}, DZ P N ops l done seg ys base st K → seg.length = ys.length → (∀ q ∈ l, ops[q.1]? = some q.2) → (∀ j, j < ops.size → j ∈ seg ∨ j ∈ done ∨ ∃ q ∈ l, q.1 = j) →
      (∀ (i : Nat) (o : Oper) (y : Inx), ops[at0 seg i]? = some o → ys[i]? = some y → Told2 P N ops base (ys.take i) o y) →
      (∀ k, gt st.sl k = gt (slAt base (infs ys)) k) → st.ob = obX base ys → LabsFrom base.nx (infs ys) st.nx →
      ∀ (listed : Array Bool) (a : Act) (w : World) (E : Env), listed.size = ops.size → Closed ops listed → (∀ j, listed.getD j false = memN done j) → Rel N cx E base a w → wpAny P .any ops Q (unl ops listed) listed a w := by
  intro l
  induction l with
  | nil =>
    intro done seg ys base st hD hlen hops hcov htold h1 h2 h3 listed a w E hsz hcl hls hR
    obtain ⟨hseg, s, hcl0, hK⟩ := hD
    obtain ⟨c1, c1', c1'', c2, c3, c4, c5, c6⟩ := segOK_ok hseg
    obtain ⟨nd1, nd2, nd3⟩ := List.nodup_append.1 c1''
    have hnd : ∀ i, i < ys.length → memN done (at0 seg i) = false := fun i hi => by
      rw [Bool.eq_false_iff]; intro h
      exact nd3 _ (List.mem_of_getElem? (at0_lt (by omega))) _ (memN_iff.1 h) rfl
    refine wpAny_seg (f := at0 seg) (done := memN done) hedge c2 (fun i j hi hj e => nodup_at nd1 i j _ (at0_lt (by omega)) (by rw [e]; exact at0_lt (by omega))) hnd h3 c1 c3 c4 c6 c5 htold (fun listed' a' w' E' hsz' hcl' hd' hs' hp' hI' => ?_) _ listed a w E rfl hsz hcl (fun j hj => by rw [hls j]; exact hj) (fun j hj _ => by rw [hls j]; exact hj) (rel_inv2 hR (fun j hj => by rw [hls]; exact hnd j hj))
    have hall : ∀ j, j < ops.size → listed'.getD j false = true := fun j hj => by
      rcases hcov j hj with h | h | ⟨q, hq, _⟩
      · obtain ⟨i, hi⟩ := List.getElem?_of_mem h
        have his := (List.getElem?_eq_some_iff.1 hi).1
        have := at0_lt his; rw [hi] at this
        rw [Option.some.inj this]; exact hs' i (by omega)
      · exact hd' j (memN_iff.2 h)
      · cases hq
    have hu : unl ops listed' = 0 := by
      unfold unl
      rw [List.length_eq_zero_iff, List.filter_eq_nil_iff]
      intro j hj
      rw [hall j (by simpa using hj)]
      simp
    rw [hu]
    refine ⟨?_, hQ E' s a' w' (inv2_rel hI' c1 hs' h1 h2 h3 hcl0) hK⟩
    rw [List.eq_nil_iff_forall_not_mem]
    intro i hi
    obtain ⟨k1, k2, _⟩ := ready_at hsz' hi
    rw [hall i k1] at k2; cases k2
  | cons q r ih =>
    obtain ⟨p, o⟩ := q
    intro done seg ys base st hD hlen hops hcov htold h1 h2 h3 listed a w E hsz hcl hls hR
    have hat : ops[p]? = some o := hops (p, o) (by simp)
    rcases hD with ⟨y, st1, st', hds, hsame, hr⟩ | ⟨hseg, hbar, s, st0, st1, st2, hcl0, hw0, hbo, hw1, hr⟩
    · obtain ⟨k1, k2, k3, k4⟩ := told_step hds hsame h1 h2 h3
      refine ih hr (by simp [hlen]) (fun q hq => hops q (by simp [hq])) (fun j hj => ?_) (fun i o' y' ho' hy' => ?_) k2 k3 k4 listed a w E hsz hcl hls hR
      · rcases hcov j hj with h | h | ⟨q, hq, e⟩
        · exact .inl (by simp [h])
        · exact .inr (.inl h)
        · rcases List.mem_cons.1 hq with rfl | hq
          · exact .inl (by simp [← e])
          · exact .inr (.inr ⟨q, hq, e⟩)
      · rcases Nat.lt_or_ge i ys.length with h | h
        · rw [List.getElem?_append_left h] at hy'
          rw [List.take_append_of_le_length (by omega)]
          have e : at0 (seg ++ [p]) i = at0 seg i := by unfold at0; rw [List.getD_eq_getElem?_getD, List.getD_eq_getElem?_getD, List.getElem?_append_left (by omega)]
          rw [e] at ho'
          exact htold i o' y' ho' hy'
        · have hi : i = ys.length := by
            have := (List.getElem?_eq_some_iff.1 hy').1
            simp at this; omega
          subst hi
          simp at hy'
          subst hy'
          rw [List.take_left]
          have e : at0 (seg ++ [p]) ys.length = p := by unfold at0; rw [List.getD_eq_getElem?_getD, ← hlen]; simp
          rw [e, hat] at ho'
          cases ho'
          exact k1
    · obtain ⟨c1, c1', c1'', c2, c3, c4, c5, c6⟩ := segOK_ok hseg
      obtain ⟨nd1, nd2, nd3⟩ := List.nodup_append.1 c1''
      have hlt : p < ops.size := by
        rcases Nat.lt_or_ge p ops.size with h | h
        · exact h
        · rw [Array.getElem?_eq_none h] at hat; cases hat
      have hnd : ∀ i, i < ys.length → memN done (at0 seg i) = false := fun i hi => by
        rw [Bool.eq_false_iff]; intro h
        exact nd3 _ (List.mem_of_getElem? (at0_lt (by omega))) _ (memN_iff.1 h) rfl
      refine wpAny_seg (f := at0 seg) (done := memN done) hedge c2 (fun i j hi hj e => nodup_at nd1 i j _ (at0_lt (by omega)) (by rw [e]; exact at0_lt (by omega))) hnd h3 c1 c3 c4 c6 c5 htold (fun listed' a' w' E' hsz' hcl' hd' hs' hp' hI' => ?_) _ listed a w E rfl hsz hcl (fun j hj => by rw [hls j]; exact hj) (fun j hj _ => by rw [hls j]; exact hj) (rel_inv2 hR (fun j hj => by rw [hls]; exact hnd j hj))
      have hseg' : ∀ j, j ∈ seg → listed'.getD j false = true := fun j h => by
        obtain ⟨i, hi⟩ := List.getElem?_of_mem h
        have his := (List.getElem?_eq_some_iff.1 hi).1
        have := at0_lt his; rw [hi] at this
        rw [Option.some.inj this]; exact hs' i (by omega)
      have hls' : ∀ j, listed'.getD j false = memN (seg ++ done) j := fun j => by
        cases hm : memN (seg ++ done) j with
        | true =>
          rcases List.mem_append.1 (memN_iff.1 hm) with h | h
          · exact hseg' j h
          · exact hd' j (memN_iff.2 h)
        | false =>
          have hn : j ∉ seg ++ done := fun h => by rw [memN_iff.2 h] at hm; cases hm
          refine hp' j ?_ (fun i hi e => hn ?_)
          · rw [Bool.eq_false_iff]; intro h; exact hn (List.mem_append.2 (.inr (memN_iff.1 h)))
          · rw [← e]; exact List.mem_append.2 (.inl (List.mem_of_getElem? (at0_lt (by omega))))
      have hRel := inv2_rel hI' c1 hs' h1 h2 h3 hcl0
      simp only [barOK, Bool.and_eq_true] at hbar
      obtain ⟨hpd, hbar⟩ := hbar
      have hun : listed'.getD p false = false := by rw [hls']; simpa using hpd
      have hus := unl_step (ops := ops) hsz' hlt hun
      rw [hus]
      refine ⟨fun h0 => absurd h0 (ready_some hedge hsz' hus), fun q hq => ?_⟩
      obtain ⟨hio, hunp, o', ho', hd⟩ := ready_at hsz' hq
      have hp : q = p := by
        have hb := List.all_eq_true.1 hbar q (by simpa using hio)
        rw [Bool.or_eq_true, Bool.or_eq_true] at hb
        rcases hb with (hb | hb) | hb
        · exact Nat.eq_of_beq_eq_true hb
        · rw [hls', hb] at hunp; cases hunp
        · have := anc_listed hcl' hb ⟨o', ho', hd⟩
          rw [hun] at this; cases this
      subst hp
      rw [hat] at ho'
      cases ho'
      obtain ⟨E0, hR0⟩ := hw0 cx E' a' w' hRel
      have hrun : ∀ (h : AWO P N o st0 st1), o.wp P a' w' (wpAny P .any ops Q (unl ops (listed'.setIfInBounds q true)) (listed'.setIfInBounds q true)) Q := by
        intro h
        refine wp_monoQ (fun _ _ _ h => h.elim) (Oper.wp_mono ?_ (h cx E0 a' w' hR0))
        rintro a2 w2 ⟨E2, hR2⟩
        obtain ⟨E3, hR3⟩ := hw1 cx E2 a2 w2 hR2
        refine ih hr rfl (fun q hq => hops q (by simp [hq])) (fun j hj => ?_) (fun i o' y' ho' hy' => by simp at hy') (fun k => rfl) rfl rfl _ a2 w2 E3 (by simpa using hsz') (closed_step hsz' hlt hat hd hcl') (fun j => ?_) hR3
        · rcases hcov j hj with h | h | ⟨z, hz, e⟩
          · exact .inr (.inl (by simp [h]))
          · exact .inr (.inl (by simp [h]))
          · rcases List.mem_cons.1 hz with rfl | hz
            · exact .inr (.inl (by simp [← e]))
            · exact .inr (.inr ⟨z, hz, e⟩)
        · rw [getD_listed (by omega)]
          split
          · rename_i h; subst h; symm; exact memN_iff.2 (by simp)
          · rename_i hne
            rw [hls' j]
            cases hm : memN (seg ++ done) j with
            | true => symm; exact memN_iff.2 (List.mem_cons_of_mem _ (memN_iff.1 hm))
            | false =>
              symm; rw [Bool.eq_false_iff]; intro h
              rcases List.mem_cons.1 (memN_iff.1 h) with e | h
              · exact hne e.symm
              · rw [memN_iff.2 h] at hm; cases hm
      unfold wpOp
      simp only [hat]
      rcases hbo with ⟨hg, hawo⟩ | ⟨j, dj, b, hg, hj, hdj, hb, hawo⟩
      · rw [if_pos (by simp [Region.wanted, hg])]
        exact .inl (hrun hawo)
      · have hy := yield_bool (ops := ops) hR0 hj hdj hb
        rw [if_pos (by simp [Region.wanted, hg, hy])]
        exact .inl (hrun hawo)
end
/-- The operations in the order of the places given. -/
def ordO (l : List Oper) : List Nat → Option (List (Nat × Oper))
  | [] => some []
  | i :: is => match l[i]?, ordO l is with
    | some o, some r => some ((i, o) :: r)
    | _, _ => none
def covO (n : Nat) (is : List Nat) : Bool := (List.range n).all fun j => memN is j
theorem ordO_mem {l : List Oper} : ∀ {is : List Nat} {r : List (Nat × Oper)}, ordO l is = some r → (∀ q ∈ r, l[q.1]? = some q.2) ∧ (∀ j ∈ is, ∃ q ∈ r, q.1 = j)
  | [], r, h => by simp [ordO] at h; subst h; simp
  | i :: is, r, h => by
    simp only [ordO] at h
    split at h
    · rename_i o r' h1 h2
      simp at h; subst h
      obtain ⟨k1, k2⟩ := ordO_mem h2
      refine ⟨fun q hq => ?_, fun j hj => ?_⟩
      · rcases List.mem_cons.1 hq with rfl | hq
        · exact h1
        · exact k1 q hq
      · rcases List.mem_cons.1 hj with rfl | hj
        · exact ⟨_, List.mem_cons_self .., rfl⟩
        · obtain ⟨q, hq, e⟩ := k2 j hj; exact ⟨q, List.mem_cons_of_mem _ hq, e⟩
    · cases h
theorem awc_dz {P : Program} {N id : Nat} {l : List Oper} {st : St} {AQ : Exit → St → Prop} (is : List Nat) {r : List (Nat × Oper)} (hm : P.follows .mixedOrders = true) (he : edgesOK l.toArray = true) (hc : covO l.length is = true) (ho : ordO l is = some r)
    (h : DZ P N l.toArray r [] [] [] st st (fun s => AQ .normal s)) : AWC P N (.region id l.toArray true) st AQ := by
  intro cx E a w hR
  refine wp_region_any hm ?_
  have hR' := rel_drew hR
  have hedge : ∀ i o, l.toArray[i]? = some o → ∀ e ∈ o.after, Region.binds .any e = true → e.on < i := by
    intro i o ho e hm hb
    have hi : i < l.toArray.size := by
      rcases Nat.lt_or_ge i l.toArray.size with h | h
      · exact h
      · rw [Array.getElem?_eq_none h] at ho; cases ho
    have := List.all_eq_true.1 he i (by simpa using hi)
    simp only [ho] at this
    have := List.all_eq_true.1 this e (by simpa using hm)
    simp only [hb, Bool.not_true, Bool.false_or] at this
    exact blt_lt this
  have hfull : unl l.toArray (Array.replicate l.toArray.size false) = l.toArray.size := by
    unfold unl
    rw [List.filter_eq_self.2]
    · simp
    · intro i hi; rw [rep_getD]; rfl
  have := dz_ok (P := P) (cx := cx) (Q := lift N cx AQ) hedge (fun E st a w hR hK => ⟨E, st, hR, hK⟩) h rfl (fun q hq => by have := (ordO_mem ho).1 q hq; simpa using this) (fun j hj => by
      have hj' : j < l.length := by simpa using hj
      have := List.all_eq_true.1 hc j (by simpa using hj')
      exact .inr (.inr ((ordO_mem ho).2 j (memN_iff.1 this)))) (fun i o y _ hy => by simp at hy) (fun k => rfl) rfl rfl (Array.replicate l.toArray.size false) a _ E (by simp) (fun i o ho hd => by rw [rep_getD] at hd; cases hd) (fun j => by rw [rep_getD]; simp [memN]) hR'
  rw [hfull] at this
  exact this
section
variable {P : Program} {N : Nat} {ops : Array Oper} {l : List (Nat × Oper)} {o : Oper} {st st' base : St} {x : Inf} {y : Inx} {K : St → Prop} {ys : List Inx} {dn seg : List Nat} {p : Nat}
theorem dz_nil (hs : segOK ops dn seg ys = true) (hk : kls ys = []) (h : K st) : DZ P N ops [] dn seg ys base st K := ⟨hs, st, clean_none hk, h⟩
theorem dz_n (hg : o.guard = none) (h : NS P N o st st' x) (h' : DZ P N ops l dn (seg ++ [p]) (ys ++ [⟨x, [], none⟩]) base st' K) : DZ P N ops ((p, o) :: l) dn seg ys base st K := .inl ⟨_, st', st', .inl ⟨hg, nx_of_ns h⟩, .refl _, h'⟩
theorem dz_ng {j : Nat} {dj : Tmp} {b : Bool} (hg : o.guard = some (j, b)) (hj : (ops[j]?).bind (·.dst) = some dj) (hdj : nlt dj N = true) (hb : gt st.sl dj = tB b) (h : NS P N o st st' x)
    (h' : DZ P N ops l dn (seg ++ [p]) (ys ++ [⟨{ x with needs := (.tmp dj, tB b) :: x.needs }, [], none⟩]) base st' K) : DZ P N ops ((p, o) :: l) dn seg ys base st K := .inl ⟨_, st', st', .inr (.inl ⟨j, dj, b, _, hg, hj, blt_lt hdj, hb, nx_of_ns h, rfl⟩), .refl _, h'⟩
/-- A call among others that writes what is handed to it. -/
theorem dz_w (hg : o.guard = none) (h : NX P N o st st' y) (h' : DZ P N ops l dn (seg ++ [p]) (ys ++ [y]) base st' K) : DZ P N ops ((p, o) :: l) dn seg ys base st K := .inl ⟨_, st', st', .inl ⟨hg, h⟩, .refl _, h'⟩
theorem dz_skip {j : Nat} {dj d : Tmp} {b : Bool} (hg : o.guard = some (j, b)) (hj : (ops[j]?).bind (·.dst) = some dj) {t : T} (hdj : nlt dj N = true) (ht : gt st.sl dj = t) (hb : noG b t = true) (hd : o.dst = some d) (hN : nlt d N = true)
    (h' : DZ P N ops l dn (seg ++ [p]) (ys ++ [⟨⟨d, [(.tmp dj, t)], [], .tup [], []⟩, [], none⟩]) base ⟨(d, .tup []) :: st.sl, st.ob, st.nx⟩ K) : DZ P N ops ((p, o) :: l) dn seg ys base st K :=
  .inl ⟨_, _, _, .inr (.inr ⟨j, dj, b, d, hg, hj, blt_lt hdj, by rw [ht]; exact hb, hd, blt_lt hN, by rw [ht], rfl⟩), .refl _, h'⟩
theorem bo_n {st0 st1 : St} (hg : o.guard = none) (h : AWO P N o st0 st1) : BO P N ops o st0 st1 := .inl ⟨hg, h⟩
theorem weak_id {s : St} : Weak N s s := fun _ E _ _ h => ⟨E, h⟩
/-- Any other writing operation: it parts the region. -/
theorem dz_bar {st0 st1 st2 : St} (hs : segOK ops dn seg ys = true) (hkl : kls ys = []) (hb : barOK ops (seg ++ dn) p = true) (hw : Weak N st st0) (h : BO P N ops o st0 st1) (hw2 : Weak N st1 st2) {dn' : List Nat} (hlo : p :: (seg ++ dn) = dn') (h' : DZ P N ops l dn' [] [] st2 st2 K) : DZ P N ops ((p, o) :: l) dn seg ys base st K := by
  subst hlo
  exact .inr ⟨hs, hb, st, st0, st1, st2, clean_none hkl, hw, h, hw2, h'⟩
end
section
variable {P : Program} {N : Nat} {ops : Array Oper} {l : List (Nat × Oper)} {o : Oper} {sl : List (Nat × T)} {ob : List (Nat × Ob)} {nx : Nat} {base : St} {K : St → Prop} {ys : List Inx} {dn seg : List Nat} {p : Nat}
theorem zgs {j : Nat} {dj d : Tmp} {b : Bool} {t : T} (hg : o.guard = some (j, b)) (hj : (ops[j]?).bind (·.dst) = some dj) (hdj : nlt dj N = true) (ht : gt sl dj = t) (hb : noG b t = true) (hd : o.dst = some d) (hN : nlt d N = true)
    (h' : DZ P N ops l dn (seg ++ [p]) (ys ++ [⟨⟨d, [(.tmp dj, t)], [], .tup [], []⟩, [], none⟩]) base ⟨(d, .tup []) :: sl, ob, nx⟩ K) : DZ P N ops ((p, o) :: l) dn seg ys base ⟨sl, ob, nx⟩ K := dz_skip (st := ⟨sl, ob, nx⟩) hg hj hdj ht hb hd hN h'
/-- A call that writes one thing, among other operations. -/
theorem cwx {d : Tmp} {ty : TypeId} {ps : String} {af : Array Edge} {gd : Option (Nat × Bool)} {f : FuncId} {args : List Operand} {tys : Array TypeId} {ob' : List (Nat × Ob)} {o : Nat} {x0 x1 y : Ob} {ts ts' : List T} {eqs : List (Nat × Nat)} {res : List RV} {out : T} {nw : List (Nat × Ob)} {n : Nat}
    (hF : FnW P f x1 ts' y res) (ht : opTs sl args = some ts) (ho : go ob o = some x0) (hl : x0.loc = x1) (hfx : x0.free = true) (hfy : y.free = true) (ha : locTs [] o ts = some (ts', eqs)) (he : Eqs eqs) (hi : impR nx res = some (out, nw, n)) (hw : nwOk nx nw n = true) (hN : nlt d N = true) (hob : apO nw ((o, y) :: ob) = some ob') :
    NX P N ⟨some d, .call ⟨.value (.func f), args.toArray, tys⟩, ty, ps, af, gd⟩ ⟨sl, ob, nx⟩ ⟨(d, out) :: sl, ob', n⟩ ⟨⟨d, args.zip ts, [(o, x0)], out, nw⟩, [(o, y)], none⟩ := by
  subst hl
  rw [apO_eq hob]
  obtain ⟨t1, t2⟩ := opTs_ok ht
  exact ⟨awk_of_awx (awx_callW hF t1 hfx hfy ha he hi), .inl ⟨rfl, blt_lt hN⟩, t2, ⟨ho, trivial⟩, nwOk_ok hw, rfl⟩
theorem envOK_setRow {cx : Cx} {E : Env} {w : World} {o b c : Nat} {cs : Array Value} (ok : EnvOK cx E w) (hr : E.r o = some (b, c)) (hF : ¬ E.F b) : EnvOK cx E (w.setRow b cs) := by
  have hsz : (w.setRow b cs).heap.size = w.heap.size := by simp
  refine ⟨fun k hk => by rw [hsz]; exact ok.fb k hk, ok.gf, ok.gn, fun o b c h => by rw [hsz]; exact ok.rb o b c h, ok.inj, ok.os, ok.tape, ok.output, by rw [hsz]; exact ok.size, fun k hk hW => ?_, ok.pin, ok.ff, fun k hg hk' => (ok.gc k hg hk').of_eq (setRow_other w b k cs (fun e => hF (by subst e; exact hg))), ok.sf.setRow hr⟩
  rw [setRow_other _ _ _ _ (fun e => by
      subst e
      rcases (ok.rb o k c hr).2 with h | h
      · omega
      · exact hW h.1)]
  exact ok.block k hk hW
theorem extW_setRow {cx : Cx} {E : Env} {w : World} {o b c : Nat} {cs : Array Value} {ob' : Ob} (ok : EnvOK cx E w) (hr : E.r o = some (b, c)) (hF : ¬ E.F b) : ExtW [(o, ob')] E w E (w.setRow b cs) := by
  refine ⟨fun _ _ h => h, fun _ h => h, fun _ h => h, fun _ h => .inl h, fun k hk hne => setRow_other w b k cs (fun e => ?_), fun l ob k c' hm h => ?_, rfl, rfl, rfl⟩
  · subst e; exact hne o ob' c (by simp) hr
  · simp at hm; obtain ⟨rfl, _⟩ := hm; rw [hr] at h; cases h; exact hF
/-- A variable's cells are written, among other operations. -/
theorem spx {ty : TypeId} {ps : String} {af : Array Edge} {gd : Option (Nat × Bool)} {x y : Operand} {t : TypeId} {n o k : Nat} {vt : TypeId} {cs cs' ns : List C} {v : V} (q : Nat) (hq : Nat.ble N q = true) [ht : TyN P t n] (hx : opT sl x = .v (.c (.p o k))) (hy : opT sl y = .v v) (ho : go ob o = some (.var vt cs)) (hv : vcs v = some ns)
    (hn : Nat.beq ns.length n = true) (hst : ns.all C.sto = true) (hs : splO k ns cs = some cs') :
    NX P N ⟨none, .store t x y, ty, ps, af, gd⟩ ⟨sl, ob, nx⟩ ⟨(q, .any) :: sl, (o, .var vt cs') :: ob, nx⟩ ⟨⟨q, [(x, .v (.c (.p o k))), (y, .v v)], [(o, .var vt cs)], .any, []⟩, [(o, .var vt cs')], none⟩ := by
  refine ⟨awk_of_awx ?_, .inr ⟨rfl, Nat.le_of_ble_eq_true hq, rfl⟩, ⟨hx, hy, trivial⟩, ⟨ho, trivial⟩, rfl, rfl⟩
  intro cx E a w ok hne hnob hfr
  have h1 : cvT E w (.v (.c (.p o k))) (a.eval x) := hne x _ (.head _)
  have h2 : cvT E w (.v v) (a.eval y) := hne y _ (.tail _ (.head _))
  obtain ⟨b, c, hr, hu⟩ := h1
  have h3 : relOb E w o (.var vt cs) := hnob o _ (.head _)
  obtain ⟨b', c', arr, hr', hh, hcv, hF⟩ := h3
  rw [hr] at hr'; cases hr'
  have hvc := vcs_ok hv h2
  have hl1 := CV_length hvc
  have hl2 := CV_length hcv
  have hnn := Nat.eq_of_beq_eq_true hn
  have hle := (splO_eq hs).2
  have hsz : (a.eval y).cells.size = n := by simp at hl1; omega
  have hrun := storeAt_run (P := P) (t := t) (n := n) (k := k) hsz (CV_one hv hst h2) hh (by simp at hl2; omega)
  unfold Oper.wp
  simp only [execOp, hu, Sem.run_bind, hrun, Result.andThen_ok, Sem.run_pure, Oper.upon_skip, Act.put]
  have hk := keeps_setRow (cs := (arr.toList.take k ++ (a.eval y).cells.toList ++ arr.toList.drop (k + n)).toArray) (w := w) ok hr hF
  refine ⟨undef, E, trivial, envOK_setRow ok hr hF, ?_, trivial, (fun _ _ h => by cases h), fun l ob' hm => ?_, fun l p h => .inl h⟩
  · exact extW_setRow ok hr hF
  · simp at hm; obtain ⟨rfl, rfl⟩ := hm
    refine ⟨b, c, _, hr, setRow_same _ hh, ?_, hF⟩
    refine CV_keeps hk (CV_splice hs hvc hcv ?_ fun i => ?_)
    · simp at hl2 ⊢; omega
    · rw [show (arr.toList.take k ++ (a.eval y).cells.toList ++ arr.toList.drop (k + n)).toArray.toList = arr.toList.take k ++ (a.eval y).cells.toList ++ arr.toList.drop (k + n) from rfl]
      exact getElem?_splice (by simpa using hsz) (by simp at hl2 ⊢; omega) i
end
end Go.AM
