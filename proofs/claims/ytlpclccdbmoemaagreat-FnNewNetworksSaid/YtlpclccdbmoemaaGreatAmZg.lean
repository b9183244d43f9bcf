/-
  The abstract machine, part Zg: a region that draws its order and writes, run in the text's order.
-/
import Derived.Test.YtlpclccdbmoemaaGreatAmZj
set_option linter.unusedVariables false
namespace Go.AM
open Go.RowKit
/-- What an operation reads, makes and writes. -/
structure Inx where
  x : Inf
  up : List (Nat × Ob)
  kl : Option Nat
/-- Where the result goes: into a slot, or nowhere. -/
def dstOK (N : Nat) (o : Oper) (x : Inf) : Prop := (o.dst = some x.d ∧ x.d < N) ∨ (o.dst = none ∧ N ≤ x.d ∧ x.out = .any)
def NX (P : Program) (N : Nat) (o : Oper) (st st' : St) (y : Inx) : Prop :=
  AWK P o y.x.needs y.x.nob y.x.out y.x.nw y.up y.kl ∧ dstOK N o y.x ∧ Lk st.sl y.x.needs ∧ Lo st.ob y.x.nob ∧ Nw st.nx y.x.nw st'.nx ∧ st' = ⟨(y.x.d, y.x.out) :: st.sl, y.x.nw ++ (y.up ++ st.ob), st'.nx⟩
theorem nx_of_ns {P : Program} {N : Nat} {o : Oper} {st st' : St} {x : Inf} (h : NS P N o st st' x) : NX P N o st st' ⟨x, [], none⟩ := by
  obtain ⟨h1, h2, h3, h4, h5, h6, h7⟩ := h
  exact ⟨awk_of_awx (awx_of_awn h1), .inl ⟨h2, h3⟩, h4, h5, h6, h7⟩
/-- One operation of a region: carried out, or left out by its guard. -/
def DS2 (P : Program) (N : Nat) (ops : Array Oper) (o : Oper) (st st' : St) (y : Inx) : Prop :=
  (o.guard = none ∧ NX P N o st st' y) ∨
  (∃ j dj b z, o.guard = some (j, b) ∧ (ops[j]?).bind (·.dst) = some dj ∧ dj < N ∧ gt st.sl dj = tB b ∧ NX P N o st st' z ∧ y = ⟨{ z.x with needs := (.tmp dj, tB b) :: z.x.needs }, z.up, z.kl⟩) ∨
  (∃ j dj b d, o.guard = some (j, b) ∧ (ops[j]?).bind (·.dst) = some dj ∧ dj < N ∧ noG b (gt st.sl dj) = true ∧ o.dst = some d ∧ d < N ∧ y = ⟨⟨d, [(.tmp dj, gt st.sl dj)], [], .tup [], []⟩, [], none⟩ ∧ st' = ⟨(d, .tup []) :: st.sl, st.ob, st.nx⟩)
/-- The objects as the operations chosen by p leave them. -/
def obF (p : Nat → Bool) : Nat → List Inx → List (Nat × Ob) → List (Nat × Ob)
  | _, [], acc => acc
  | k, y :: ys, acc => obF p (k + 1) ys (if p k then y.x.nw ++ (y.up ++ acc) else acc)
def touch (y : Inx) (l : Nat) : Bool := (y.x.nw.any fun p => Nat.beq p.1 l) || (y.up.any fun p => Nat.beq p.1 l)
theorem go_skip {A B : List (Nat × Ob)} {l : Nat} (h : (A.any fun p => Nat.beq p.1 l) = false) : go (A ++ B) l = go B l := by
  induction A with
  | nil => rfl
  | cons p A ih =>
    simp only [List.any_cons, Bool.or_eq_false_iff] at h
    obtain ⟨k, v⟩ := p
    rw [List.cons_append, go, h.1]
    exact ih h.2
theorem go_here {A B : List (Nat × Ob)} {l : Nat} (h : (A.any fun p => Nat.beq p.1 l) = true) : go (A ++ B) l = go A l := by
  induction A with
  | nil => simp at h
  | cons p A ih =>
    obtain ⟨k, v⟩ := p
    rw [List.cons_append, go, go]
    cases hk : Nat.beq k l with
    | true => rfl
    | false =>
      simp only [List.any_cons, hk, Bool.false_or] at h
      exact ih h
theorem obF_congr {p q : Nat → Bool} {l : Nat} : ∀ {ys : List Inx} {k : Nat} {A B : List (Nat × Ob)}, go A l = go B l → (∀ j y, ys[j]? = some y → touch y l = true → p (k + j) = q (k + j)) → go (obF p k ys A) l = go (obF q k ys B) l
  | [], _, _, _, h, _ => h
  | y :: ys, k, A, B, h, ht => by
    simp only [obF]
    refine obF_congr ?_ (fun j z hz hj => by have := ht (j + 1) z (by simpa using hz) hj; rwa [show k + (j + 1) = k + 1 + j from by omega] at this)
    cases hto : touch y l with
    | true =>
      have h0 := ht 0 y rfl hto
      rw [Nat.add_zero] at h0
      rw [h0]
      split
      · by_cases hn : (y.x.nw.any fun p => Nat.beq p.1 l) = true
        · rw [go_here hn, go_here hn]
        · rw [go_skip (A := y.x.nw) (Bool.eq_false_iff.2 hn), go_skip (A := y.x.nw) (Bool.eq_false_iff.2 hn)]
          have hu : (y.up.any fun p => Nat.beq p.1 l) = true := by simp only [touch, Bool.or_eq_true] at hto; exact hto.resolve_left hn
          rw [go_here hu, go_here hu]
      · exact h
    | false =>
      simp only [touch, Bool.or_eq_false_iff] at hto
      have e : ∀ X : List (Nat × Ob), go (y.x.nw ++ (y.up ++ X)) l = go X l := fun X => by rw [go_skip hto.1, go_skip hto.2]
      split <;> split <;> (try simp only [e]) <;> exact h
theorem obF_snoc {p : Nat → Bool} {y : Inx} : ∀ {ys : List Inx} {k : Nat} {A : List (Nat × Ob)}, obF p k (ys ++ [y]) A = if p (k + ys.length) then y.x.nw ++ (y.up ++ obF p k ys A) else obF p k ys A
  | [], k, A => by simp [obF]
  | z :: ys, k, A => by
    simp only [List.cons_append, obF, List.length_cons]
    rw [obF_snoc, show k + 1 + ys.length = k + (ys.length + 1) from by omega]
theorem obF_take {p : Nat → Bool} : ∀ {ys : List Inx} {k n : Nat} {A : List (Nat × Ob)}, (∀ j, p (k + j) = decide (j < n)) → obF p k ys A = obF (fun _ => true) k (ys.take n) A
  | [], k, n, A, _ => by simp [obF]
  | y :: ys, k, 0, A, h => by
    have h0 := h 0
    simp at h0
    simp only [obF, List.take_zero, h0]
    have := obF_take (p := p) (ys := ys) (k := k + 1) (n := 0) (A := A) (fun j => by have := h (j + 1); simp at this ⊢; rwa [show k + (j + 1) = k + 1 + j from by omega] at this)
    simpa [obF] using this
  | y :: ys, k, n + 1, A, h => by
    have h0 := h 0
    simp at h0
    simp only [obF, List.take_succ_cons, h0, if_true]
    exact obF_take (fun j => by have := h (j + 1); rw [show k + 1 + j = k + (j + 1) from by omega, this]; simp)
def obX (base : St) (ys : List Inx) : List (Nat × Ob) := obF (fun _ => true) 0 ys base.ob
theorem obX_snoc (base : St) (ys : List Inx) (y : Inx) : obX base (ys ++ [y]) = y.x.nw ++ (y.up ++ obX base ys) := by simp [obX, obF_snoc]
def infs (ys : List Inx) : List Inf := ys.map (·.x)
/-- What a run in the text's order tells of its k-th operation. -/
def Told2 (P : Program) (N : Nat) (ops : Array Oper) (base : St) (pre : List Inx) (o : Oper) (y : Inx) : Prop :=
  (∀ z t, (z, t) ∈ y.x.needs → opT (slAt base (infs pre)) z = t) ∧ (∀ l ob, (l, ob) ∈ y.x.nob → go (obX base pre) l = some ob) ∧ dstOK N o y.x ∧
  ((o.guard = none ∧ AWK P o y.x.needs y.x.nob y.x.out y.x.nw y.up y.kl) ∨
   (∃ j dj b ys, o.guard = some (j, b) ∧ (ops[j]?).bind (·.dst) = some dj ∧ dj < N ∧ y.x.needs = (.tmp dj, tB b) :: ys ∧ AWK P o ys y.x.nob y.x.out y.x.nw y.up y.kl) ∨
   (∃ j dj b t, o.guard = some (j, b) ∧ (ops[j]?).bind (·.dst) = some dj ∧ dj < N ∧ y.x.needs = [(.tmp dj, t)] ∧ noG b t = true ∧ y.x.out = .tup [] ∧ y.x.nw = [] ∧ y.up = [] ∧ y.kl = none))
/-- A step in the text's order, on what is told. -/
theorem told_step {P : Program} {N : Nat} {ops : Array Oper} {base st st1 st2 : St} {ys : List Inx} {o : Oper} {y : Inx} (hds : DS2 P N ops o st st1 y) (hsame : Same st1 st2) (h1 : ∀ k, gt st.sl k = gt (slAt base (infs ys)) k) (h2 : st.ob = obX base ys) (h3 : LabsFrom base.nx (infs ys) st.nx) :
    Told2 P N ops base ys o y ∧ (∀ k, gt st2.sl k = gt (slAt base (infs (ys ++ [y]))) k) ∧ st2.ob = obX base (ys ++ [y]) ∧ LabsFrom base.nx (infs (ys ++ [y])) st2.nx := by
  have hput : ∀ (out : T) (nw up : List (Nat × Ob)) (n : Nat), y.x.out = out → y.x.nw = nw → y.up = up → st1 = ⟨(y.x.d, out) :: st.sl, nw ++ (up ++ st.ob), n⟩ → Nw st.nx nw n → (∀ k, gt st2.sl k = gt (slAt base (infs (ys ++ [y]))) k) ∧ st2.ob = obX base (ys ++ [y]) ∧ LabsFrom base.nx (infs (ys ++ [y])) st2.nx := by
    rintro out nw up n rfl rfl rfl rfl hnw
    refine ⟨fun k => ?_, ?_, ?_⟩
    · rw [← hsame.1 k]; simp only [infs, List.map_append, List.map_cons, List.map_nil]; rw [slAt_snoc]
      by_cases hk : y.x.d = k
      · rw [hk, gt_same, gt_same]
      · rw [gt_other _ _ hk, gt_other _ _ hk]; exact h1 k
    · rw [← hsame.2.1, obX_snoc, h2]
    · rw [← hsame.2.2]; simp only [infs, List.map_append, List.map_cons, List.map_nil]; exact h3.snoc hnw
  rcases hds with ⟨hg, k1, k2, k4, k5, k6, k7⟩ | ⟨j, dj, b, z, hg, hj, hdj, hb, ⟨k1, k2, k4, k5, k6, k7⟩, rfl⟩ | ⟨j, dj, b, d, hg, hj, hdj, hb, hd, hN, rfl, rfl⟩
  · exact ⟨⟨fun z t hm => by rw [← opT_same h1]; exact Lk.mem k4 z t hm, fun l' ob hm => by rw [← h2]; exact Lo.mem k5 l' ob hm, k2, .inl ⟨hg, k1⟩⟩, hput _ _ _ _ rfl rfl rfl k7 k6⟩
  · refine ⟨⟨fun y' t hm => ?_, fun l' ob hm => by rw [← h2]; exact Lo.mem k5 l' ob hm, k2, .inr (.inl ⟨j, dj, b, z.x.needs, hg, hj, hdj, rfl, k1⟩)⟩, hput _ _ _ _ rfl rfl rfl k7 k6⟩
    rw [← opT_same h1]
    rcases List.mem_cons.1 hm with e | hm
    · cases e; exact hb
    · exact Lk.mem k4 y' t hm
  · refine ⟨⟨fun y' t hm => ?_, by simp, .inl ⟨hd, hN⟩, .inr (.inr ⟨j, dj, b, _, hg, hj, hdj, rfl, hb, rfl, rfl, rfl, rfl⟩)⟩, hput (.tup []) [] [] st.nx rfl rfl rfl rfl rfl⟩
    rw [← opT_same h1]
    simp at hm; obtain ⟨rfl, rfl⟩ := hm; rfl

/-! the check of a segment: the operations 'seg', behind those of 'done' -/
def labsOf (y : Inx) : List Nat := y.x.nob.map (·.1) ++ (y.x.nw.map (·.1) ++ y.up.map (·.1))
def edgesOK (ops : Array Oper) : Bool :=
  (List.range ops.size).all fun i => match ops[i]? with
    | some o => o.after.toList.all fun e => !Region.binds .any e || nlt e.on i
    | none => false
def memN (l : List Nat) (n : Nat) : Bool := l.any fun k => Nat.beq k n
def at0 (seg : List Nat) (j : Nat) : Nat := seg.getD j 0
/-- Does the operation speak of label d? -/
def speaks (y : Inx) (d : Nat) : Bool := (y.x.needs.any fun p => p.2.has d) || memN (labsOf y) d || (y.x.nob.any fun p => p.2.hasO d)
def killOK (ops : Array Oper) (seg : List Nat) (ys : List Inx) : Bool :=
  (List.range ys.length).all fun j => match ys[j]? with
    | some z => match z.kl with
      | none => true
      | some d => (List.range ys.length).all fun i => match ys[i]? with
        | some y => Nat.beq i j || !speaks y d || anc ops ops.size (at0 seg j) (at0 seg i)
        | none => false
    | none => false
def segOK (ops : Array Oper) (done seg : List Nat) (ys : List Inx) : Bool :=
  dstsOk (infs ys) && Nat.beq seg.length ys.length && nodupO (seg ++ done) && (seg.all fun i => nlt i ops.size) &&
  ((List.range ys.length).all fun i => match ys[i]? with
    | some y =>
      ((slotsOf y.x.needs).all fun k => match writer (infs ys) k with
        | none => true
        | some j => if nlt j i then anc ops ops.size (at0 seg i) (at0 seg j) else Nat.beq i j || anc ops ops.size (at0 seg j) (at0 seg i)) &&
      ((labsOf y).all fun l => (List.range ys.length).all fun j => match ys[j]? with
        | some z => !touch z l || (if nlt j i then anc ops ops.size (at0 seg i) (at0 seg j) else Nat.beq i j || anc ops ops.size (at0 seg j) (at0 seg i))
        | none => false)
    | none => false) &&
  ((List.range ops.size).all fun j => memN done j || memN seg j || seg.all fun i => anc ops ops.size j i) && killOK ops seg ys
/-- Labels that have been given up. -/
def Dead (f : Nat → Nat) (ys : List Inx) (listed : Array Bool) (d : Nat) : Prop := ∃ j y, listed.getD (f j) false = true ∧ ys[j]? = some y ∧ y.kl = some d
structure Inv2 (N : Nat) (cx : Cx) (base : St) (f : Nat → Nat) (ys : List Inx) (listed : Array Bool) (a : Act) (w : World) (E : Env) : Prop where
  ok : EnvOK cx E w
  dom : ∀ l x, E.r l = some x → l < base.nx ∨ ∃ j y ob, listed.getD (f j) false = true ∧ ys[j]? = some y ∧ (l, ob) ∈ y.x.nw
  obs : ∀ l ob, go (obF (fun j => listed.getD (f j) false) 0 ys base.ob) l = some ob → (∀ d, Dead f ys listed d → l ≠ d ∧ ob.hasO d = false) → relOb E w l ob
  out : ∀ j y, listed.getD (f j) false = true → ys[j]? = some y → (∀ d, Dead f ys listed d → y.x.out.has d = false) → cvT E w y.x.out (a.tmps.getD y.x.d undef)
  old : ∀ k, (∀ j y, listed.getD (f j) false = true → ys[j]? = some y → y.x.d ≠ k) → (∀ d, Dead f ys listed d → (gt base.sl k).has d = false) → cvT E w (gt base.sl k) (a.tmps.getD k undef)
  dfr : a.defers = []
  size : a.tmps.size = N
  td : ∀ l b, E.T l b → l < base.nx
theorem mem_touch {y : Inx} {l : Nat} (h : touch y l = true) {X : List (Nat × Ob)} {ob : Ob} (hg : go (y.x.nw ++ (y.up ++ X)) l = some ob) : (l, ob) ∈ y.x.nw ∨ (l, ob) ∈ y.up := by
  by_cases hn : (y.x.nw.any fun p => Nat.beq p.1 l) = true
  · rw [go_here hn] at hg; exact .inl (go_mem hg)
  · have hu : (y.up.any fun p => Nat.beq p.1 l) = true := by simp only [touch, Bool.or_eq_true] at h; exact h.resolve_left hn
    rw [go_skip (Bool.eq_false_iff.2 hn), go_here hu] at hg; exact .inr (go_mem hg)
theorem touch_up {y : Inx} {l : Nat} {ob : Ob} (h : (l, ob) ∈ y.up) : touch y l = true := by
  simp only [touch, Bool.or_eq_true, List.any_eq_true]
  exact .inr ⟨(l, ob), h, by simp⟩
theorem touch_labs {y : Inx} {l : Nat} (h : touch y l = true) : l ∈ labsOf y := by
  simp only [touch, Bool.or_eq_true, List.any_eq_true] at h
  simp only [labsOf, List.mem_append, List.mem_map]
  rcases h with ⟨p, h1, h2⟩ | ⟨p, h1, h2⟩
  · exact .inr (.inl ⟨p, h1, Nat.eq_of_beq_eq_true h2⟩)
  · exact .inr (.inr ⟨p, h1, Nat.eq_of_beq_eq_true h2⟩)
section
variable {P : Program} {N : Nat} {cx : Cx} {ops : Array Oper} {base : St} {f : Nat → Nat} {ys : List Inx} {Q : Exit → Act → World → Prop}
def unl (ops : Array Oper) (listed : Array Bool) : Nat := ((List.range ops.size).filter fun i => !listed.getD i false).length
def Closed (ops : Array Oper) (listed : Array Bool) : Prop := ∀ i o, ops[i]? = some o → listed.getD i false = true → ∀ e ∈ o.after, Region.binds .any e = true → listed.getD e.on false = true
theorem unl_step {listed : Array Bool} {i : Nat} (hsz : listed.size = ops.size) (hio : i < ops.size) (hun : listed.getD i false = false) : unl ops listed = unl ops (listed.setIfInBounds i true) + 1 := by
  have hcount : ∀ (l : List Nat), l.Nodup → i ∈ l → (l.filter fun k => !listed.getD k false).length = (l.filter fun k => !(listed.setIfInBounds i true).getD k false).length + 1 := by
    intro l
    induction l with
    | nil => intro _ h; cases h
    | cons k l ihl =>
      intro hnd hm
      obtain ⟨hk1, hk2⟩ := List.nodup_cons.1 hnd
      by_cases hki : i = k
      · subst hki
        have hsame : (l.filter fun k => !listed.getD k false) = (l.filter fun k => !(listed.setIfInBounds i true).getD k false) := by
          apply List.filter_congr
          intro z hz
          rw [getD_listed (by omega), if_neg (fun e => hk1 (by rw [e]; exact hz))]
        rw [List.filter_cons_of_pos (by simp only [Bool.not_eq_true']; exact hun), List.filter_cons_of_neg (by rw [getD_listed (by omega), if_pos rfl]; simp), hsame, List.length_cons]
      · have hml : i ∈ l := by rcases List.mem_cons.1 hm with e | e; exact absurd e hki; exact e
        have := ihl hk2 hml
        have hgk : (listed.setIfInBounds i true).getD k false = listed.getD k false := by rw [getD_listed (by omega), if_neg hki]
        cases hgd : listed.getD k false with
        | true => rw [List.filter_cons_of_neg (by simp only [hgd]; simp), List.filter_cons_of_neg (by simp only [hgk, hgd]; simp)]; exact this
        | false => rw [List.filter_cons_of_pos (by simp only [hgd]; simp), List.filter_cons_of_pos (by simp only [hgk, hgd]; simp), List.length_cons, List.length_cons, this]
  exact hcount (List.range ops.size) List.nodup_range (by simpa using hio)
theorem closed_step {listed : Array Bool} {i : Nat} {o : Oper} (hsz : listed.size = ops.size) (hio : i < ops.size) (ho : ops[i]? = some o) (hd : ∀ e ∈ o.after, Region.binds .any e = true → listed.getD e.on false = true) (hcl : Closed ops listed) : Closed ops (listed.setIfInBounds i true) := by
  intro j oj hj hdj e he hb
  rw [getD_listed (by omega)]
  split
  · rfl
  · rw [getD_listed (by omega)] at hdj
    split at hdj
    · rename_i hij; subst hij; rw [ho] at hj; cases hj; exact hd e he hb
    · exact hcl j oj hj hdj e he hb
theorem ready_some {listed : Array Bool} (hedge : ∀ i o, ops[i]? = some o → ∀ e ∈ o.after, Region.binds .any e = true → e.on < i) (hsz : listed.size = ops.size) {n : Nat} (hc : unl ops listed = n + 1) : Region.ready .any ops listed ≠ [] := by
  intro h0
  have hex : ∃ i, i < ops.size ∧ listed.getD i false = false := by
    have : ((List.range ops.size).filter fun i => !listed.getD i false) ≠ [] := fun e => by unfold unl at hc; rw [e] at hc; simp at hc
    obtain ⟨i, hi⟩ := List.exists_mem_of_ne_nil _ this
    simp only [List.mem_filter, List.mem_range, Bool.not_eq_true'] at hi
    exact ⟨i, hi.1, hi.2⟩
  have hmin : ∀ n i, i ≤ n → i < ops.size → listed.getD i false = false → ∃ i, i ∈ Region.ready .any ops listed := by
    intro n
    induction n using Nat.strongRecOn with
    | _ n ihn =>
      intro i hin his hif
      by_cases hd : ∀ e ∈ ops[i].after, Region.binds .any e = true → listed.getD e.on false = true
      · refine ⟨i, mem_ready.2 ⟨?_, ops[i], Array.getElem?_eq_getElem his, hd⟩⟩
        rw [Array.getD_eq_getD_getElem?, Array.getElem?_eq_getElem (by omega)] at hif ⊢
        simpa using hif
      · simp only [Classical.not_forall] at hd
        obtain ⟨e, he, hb, hne⟩ := hd
        have hlt := hedge i ops[i] (Array.getElem?_eq_getElem his) e he hb
        exact ihn e.on (by omega) e.on (Nat.le_refl _) (by omega) (by simpa using hne)
  obtain ⟨i, h1, h2⟩ := hex
  obtain ⟨j, hj⟩ := hmin i i (Nat.le_refl _) h1 h2
  rw [h0] at hj; cases hj
theorem ready_at {listed : Array Bool} (hsz : listed.size = ops.size) {i : Nat} (hi : i ∈ Region.ready .any ops listed) : i < ops.size ∧ listed.getD i false = false ∧ ∃ o, ops[i]? = some o ∧ ∀ e ∈ o.after, Region.binds .any e = true → listed.getD e.on false = true := by
  obtain ⟨h1, o, ho, hd⟩ := mem_ready.1 hi
  have hio : i < ops.size := by
    rcases Nat.lt_or_ge i ops.size with h | h
    · exact h
    · rw [Array.getElem?_eq_none h] at ho; cases ho
  refine ⟨hio, ?_, o, ho, hd⟩
  rw [Array.getD_eq_getD_getElem?, Array.getElem?_eq_getElem (by omega)] at h1 ⊢
  simpa using h1
theorem anc_listed {listed : Array Bool} (hcl : Closed ops listed) {n i j : Nat} (h : anc ops n i j = true) (hi : ∃ o, ops[i]? = some o ∧ ∀ e ∈ o.after, Region.binds .any e = true → listed.getD e.on false = true) : listed.getD j false = true := anc_closed hcl n i j h hi
theorem anc_listed' {listed : Array Bool} (hsz : listed.size = ops.size) (hcl : Closed ops listed) {n i j : Nat} (h : anc ops n i j = true) (hi : listed.getD i false = true) : listed.getD j false = true := by
  have his : i < ops.size := by
    rcases Nat.lt_or_ge i ops.size with h | h
    · exact h
    · rw [Array.getD_eq_getD_getElem?, Array.getElem?_eq_none (by omega)] at hi; cases hi
  exact anc_closed hcl n i j h ⟨ops[i], Array.getElem?_eq_getElem his, hcl i _ (Array.getElem?_eq_getElem his) hi⟩
theorem put_dst {o : Oper} {x : Inf} {a : Act} (h : dstOK N o x) (hs : a.tmps.size = N) (v : Value) : a.put o.dst v = a.put (some x.d) v := by
  rcases h with ⟨h, _⟩ | ⟨h, h2, _⟩
  · rw [h]
  · rw [h]
    show a = a.put (some x.d) v
    unfold Act.put
    simp only
    rw [show a.tmps.setIfInBounds x.d v = a.tmps from Array.setIfInBounds_eq_of_size_le (by omega)]
theorem getD_far {a : Act} {d k : Nat} {v : Value} (h : a.tmps.size ≤ d) : (a.put (some d) v).tmps.getD k undef = a.tmps.getD k undef := by
  unfold Act.put
  simp only
  rw [show a.tmps.setIfInBounds d v = a.tmps from Array.setIfInBounds_eq_of_size_le h]
/-- One more operation of the segment is done. -/
theorem inv2_step {listed : Array Bool} {a : Act} {w : World} {E : Env} (hI : Inv2 N cx base f ys listed a w E) (hdst : dstsOk (infs ys) = true) {i : Nat} {y : Inx} (hx : ys[i]? = some y) (hil : f i < listed.size) (hinj : ∀ j, j < ys.length → f i = f j → i = j)
    (hun : listed.getD (f i) false = false) (hdN : y.x.d < N ∨ (N ≤ y.x.d ∧ y.x.out = .any)) (hord : ∀ l, touch y l = true → ∀ j z, ys[j]? = some z → touch z l = true → listed.getD (f j) false = decide (j < i))
    {v : Value} {E' : Env} {w' : World} (ok' : EnvOK cx E' w') (ext : ExtK y.up y.kl E w E' w') (hv : cvT E' w' y.x.out v) (hnw : ∀ l ob, (l, ob) ∈ y.x.nw → relOb E' w' l ob) (hup : ∀ l ob, (l, ob) ∈ y.up → relOb E' w' l ob)
    (hdom : ∀ l x, E'.r l = some x → E.r l = some x ∨ ∃ ob, (l, ob) ∈ y.x.nw) : Inv2 N cx base f ys (listed.setIfInBounds (f i) true) (a.put (some y.x.d) v) w' E' := by
  have hD : ∀ d, Dead f ys listed d → Dead f ys (listed.setIfInBounds (f i) true) d := fun d ⟨j, z, h1, h2, h3⟩ => ⟨j, z, by
    rw [getD_listed hil]; split
    · rfl
    · exact h1, h2, h3⟩
  have hDi : ∀ d, y.kl = some d → Dead f ys (listed.setIfInBounds (f i) true) d := fun d h => ⟨i, y, by rw [getD_listed hil, if_pos rfl], hx, h⟩
  have hgx : ∀ (j : Nat) (z : Inx), ys[j]? = some z → (infs ys)[j]? = some z.x := fun j z h => by simp [infs, h]
  have hd' : ∀ j z, ys[j]? = some z → j ≠ i → z.x.d ≠ y.x.d := fun j z hj hne he => hne (dsts_inj hdst j i z.x y.x (hgx j z hj) (hgx i y hx) he)
  have hlt : i < ys.length := (List.getElem?_eq_some_iff.1 hx).1
  refine ⟨ok', fun l p hl => ?_, fun l ob hl hdd => ?_, fun j z hj hz hdd => ?_, fun k hkk hdd => ?_, hI.dfr, by simpa [Act.put] using hI.size, fun l b h => hI.td l b (by rw [← ext.T]; exact h)⟩
  · rcases hdom l p hl with h | ⟨ob, h⟩
    · rcases hI.dom l p h with h | ⟨j, z, ob, h1, h2, h3⟩
      · exact .inl h
      · refine .inr ⟨j, z, ob, ?_, h2, h3⟩
        rw [getD_listed hil]; split
        · rfl
        · exact h1
    · exact .inr ⟨i, y, ob, by rw [getD_listed hil, if_pos rfl], hx, h⟩
  · cases hto : touch y l with
    | true =>
      -- the last that touched it is this one
      rw [obF_congr (q := fun j => decide (j < i + 1)) (B := base.ob) rfl (fun j z hz hj => by
        simp only [Nat.zero_add]
        rw [getD_listed hil]
        by_cases hji : f i = f j
        · rw [if_pos hji]; have : i = j := hinj j (List.getElem?_eq_some_iff.1 hz).1 hji
          subst this; simp
        · rw [if_neg hji, hord l hto j z hz hj]
          have : i ≠ j := fun e => hji (by rw [e])
          simp only [decide_eq_decide]; omega), obF_take (n := i + 1) (fun j => by simp), List.take_add_one, hx] at hl
      simp only [Option.toList_some] at hl
      rw [obF_snoc, if_pos rfl] at hl
      rcases mem_touch hto hl with h | h
      · exact hnw l ob h
      · exact hup l ob h
    | false =>
      rw [obF_congr (q := fun j => listed.getD (f j) false) (B := base.ob) rfl (fun j z hz hj => by
        simp only [Nat.zero_add]
        rw [getD_listed hil, if_neg]
        intro e
        have : i = j := hinj j (List.getElem?_eq_some_iff.1 hz).1 e
        subst this; rw [hx] at hz; cases hz; rw [hto] at hj; cases hj)] at hl
      refine relOb_extK hI.ok ext (fun ob' hm => ?_) (fun e => (hdd l (hDi l e)).1 rfl) (fun d hd => (hdd d (hDi d hd)).2) (hI.obs l ob hl (fun d hd => hdd d (hD d hd)))
      rw [touch_up hm] at hto; cases hto
  · by_cases hji : i = j
    · subst hji; rw [hx] at hz; cases hz
      rcases hdN with hdN | ⟨_, ho⟩
      · rw [getD_put (by rw [hI.size]; exact hdN), if_pos rfl]; exact hv
      · rw [ho]; trivial
    · rw [getD_listed hil, if_neg (fun e => hji (hinj j (List.getElem?_eq_some_iff.1 hz).1 e))] at hj
      rcases hdN with hdN | ⟨hdN, _⟩
      · rw [getD_put (by rw [hI.size]; exact hdN), if_neg (Ne.symm (hd' j z hz (Ne.symm hji)))]
        exact cvT_extK hI.ok ext (fun d hd => hdd d (hDi d hd)) (hI.out j z hj hz (fun d hd => hdd d (hD d hd)))
      · rw [getD_far (by rw [hI.size]; exact hdN)]
        exact cvT_extK hI.ok ext (fun d hd => hdd d (hDi d hd)) (hI.out j z hj hz (fun d hd => hdd d (hD d hd)))
  · have hxk : y.x.d ≠ k := hkk i y (by rw [getD_listed hil, if_pos rfl]) hx
    have hpp : (a.put (some y.x.d) v).tmps.getD k undef = a.tmps.getD k undef := by
      rcases hdN with hdN | ⟨hdN, _⟩
      · rw [getD_put (by rw [hI.size]; exact hdN), if_neg hxk]
      · exact getD_far (by rw [hI.size]; exact hdN)
    rw [hpp]
    refine cvT_extK hI.ok ext (fun d hd => hdd d (hDi d hd)) (hI.old k (fun j z hj hz => hkk j z ?_ hz) (fun d hd => hdd d (hD d hd)))
    rw [getD_listed hil]; split
    · rfl
    · exact hj
/-- A segment, in any order. -/
theorem wpAny_seg {done : Nat → Bool} (hedge : ∀ i o, ops[i]? = some o → ∀ e ∈ o.after, Region.binds .any e = true → e.on < i) (hhi : ∀ i, i < ys.length → f i < ops.size) (hinj : ∀ i j, i < ys.length → j < ys.length → f i = f j → i = j) (hdis : ∀ i, i < ys.length → done (f i) = false) {nmax : Nat} (hlab : LabsFrom base.nx (infs ys) nmax) (hdst : dstsOk (infs ys) = true)
    (hslot : ∀ i y, ys[i]? = some y → ∀ k ∈ slotsOf y.x.needs, ∀ j, writer (infs ys) k = some j → if nlt j i then anc ops ops.size (f i) (f j) = true else (i = j ∨ anc ops ops.size (f j) (f i) = true))
    (hobj : ∀ i y, ys[i]? = some y → ∀ l ∈ labsOf y, ∀ j z, ys[j]? = some z → touch z l = true → if nlt j i then anc ops ops.size (f i) (f j) = true else (i = j ∨ anc ops ops.size (f j) (f i) = true))
    (hkill : ∀ j z d, ys[j]? = some z → z.kl = some d → ∀ i y, ys[i]? = some y → i ≠ j → speaks y d = true → anc ops ops.size (f j) (f i) = true)
    (htail : ∀ j, j < ops.size → done j = false → (∀ i, i < ys.length → f i ≠ j) → ∀ i, i < ys.length → anc ops ops.size j (f i) = true)
    (htold : ∀ (i : Nat) (o : Oper) (y : Inx), ops[f i]? = some o → ys[i]? = some y → Told2 P N ops base (ys.take i) o y)
    (hfin : ∀ (listed : Array Bool) a w E, listed.size = ops.size → Closed ops listed → (∀ j, done j = true → listed.getD j false = true) → (∀ i, i < ys.length → listed.getD (f i) false = true) → (∀ j, done j = false → (∀ i, i < ys.length → f i ≠ j) → listed.getD j false = false) → Inv2 N cx base f ys listed a w E → wpAny P .any ops Q (unl ops listed) listed a w) :
    ∀ (m : Nat) (listed : Array Bool) (a : Act) (w : World) (E : Env), ((List.range ys.length).filter fun i => !listed.getD (f i) false).length = m → listed.size = ops.size → Closed ops listed →
      (∀ j, done j = true → listed.getD j false = true) → (∀ j, done j = false → (∀ i, i < ys.length → f i ≠ j) → listed.getD j false = false) → Inv2 N cx base f ys listed a w E → wpAny P .any ops Q (unl ops listed) listed a w := by
  intro m
  induction m with
  | zero =>
    intro listed a w E hm hsz hcl hpre hpost hI
    refine hfin listed a w E hsz hcl hpre (fun i hi => ?_) hpost hI
    have := List.filter_eq_nil_iff.1 (List.eq_nil_of_length_eq_zero hm) i (by simpa using hi)
    simpa using this
  | succ m ih =>
    intro listed a w E hm hsz hcl hpre hpost hI
    -- something of the segment is not done
    obtain ⟨i0, hi0, hu0⟩ : ∃ i, i < ys.length ∧ listed.getD (f i) false = false := by
      have : ((List.range ys.length).filter fun i => !listed.getD (f i) false) ≠ [] := fun e => by rw [e] at hm; simp at hm
      obtain ⟨i, hi⟩ := List.exists_mem_of_ne_nil _ this
      simp only [List.mem_filter, List.mem_range, Bool.not_eq_true'] at hi
      exact ⟨i, hi.1, hi.2⟩
    have hus := unl_step (ops := ops) hsz (hhi i0 hi0) hu0
    rw [hus]
    refine ⟨fun h0 => absurd h0 (ready_some hedge hsz hus), fun p hp => ?_⟩
    obtain ⟨hio, hun, o, ho, hd⟩ := ready_at hsz hp
    have hdp : done p = false := by
      cases h : done p with
      | false => rfl
      | true => rw [hpre p h] at hun; cases hun
    obtain ⟨i, hil, rfl⟩ : ∃ i, i < ys.length ∧ p = f i := by
      apply Classical.byContradiction
      intro hno
      have hno' : ∀ i, i < ys.length → f i ≠ p := fun i hi e => hno ⟨i, hi, e.symm⟩
      have := anc_listed hcl (htail p hio hdp hno' i0 hi0) ⟨o, ho, hd⟩
      rw [this] at hu0; cases hu0
    obtain ⟨y, hx⟩ : ∃ y, ys[i]? = some y := ⟨_, List.getElem?_eq_getElem hil⟩
    have hus' : unl ops (listed.setIfInBounds (f i0) true) = unl ops (listed.setIfInBounds (f i) true) := by
      have := unl_step (ops := ops) hsz hio hun; omega
    rw [hus']
    obtain ⟨t1, t2, t3, t5⟩ := htold i o y ho hx
    have t4 : y.x.d < N ∨ (N ≤ y.x.d ∧ y.x.out = .any) := t3.imp (·.2) (·.2)
    have hanc : ∀ j, anc ops ops.size (f i) (f j) = true → listed.getD (f j) false = true := fun j h => anc_listed hcl h ⟨o, ho, hd⟩
    have hanc' : ∀ j, anc ops ops.size (f j) (f i) = true → listed.getD (f j) false = false := fun j h => by
      cases hj : listed.getD (f j) false with
      | false => rfl
      | true => rw [anc_listed' hsz hcl h hj] at hun; cases hun
    have hord : ∀ l ∈ labsOf y, ∀ j z, ys[j]? = some z → touch z l = true → listed.getD (f j) false = decide (j < i) := by
      intro l hl j z hz hj
      have := hobj i y hx l hl j z hz hj
      by_cases hji : j < i
      · rw [if_pos (by simp [nlt]; omega)] at this
        rw [hanc j this]; simp [hji]
      · rw [if_neg (by simp [nlt]; omega)] at this
        simp only [hji, decide_false]
        rcases this with rfl | h
        · exact hun
        · exact hanc' j h
    have hsp : ∀ d, Dead f ys listed d → speaks y d = false := fun d ⟨j, z, h1, h2, h3⟩ => by
      cases hs : speaks y d with
      | false => rfl
      | true =>
        have hij : i ≠ j := fun e => by subst e; rw [hun] at h1; cases h1
        rw [hanc' j (hkill j z d h2 h3 i y hx hij hs)] at h1; cases h1
    have hneeds : ∀ z t, (z, t) ∈ y.x.needs → cvT E w t (a.eval z) := by
      intro z t hm
      have hnt : ∀ d, Dead f ys listed d → t.has d = false := fun d hd => by
        have := hsp d hd
        simp only [speaks, Bool.or_eq_false_iff] at this
        have := List.any_eq_false.1 this.1.1 (z, t) hm
        simpa using this
      have ht := t1 z t hm
      cases z with
      | tmp k =>
        have hks : k ∈ slotsOf y.x.needs := by
          have key : ∀ (l : List (Operand × T)), (Operand.tmp k, t) ∈ l → k ∈ slotsOf l := by
            intro l
            induction l with
            | nil => intro h; cases h
            | cons p r ihl =>
              intro h
              rcases List.mem_cons.1 h with e | h
              · rw [← e]; simp [slotsOf]
              · have h9 := ihl h; obtain ⟨z, u⟩ := p; cases z <;> simp [slotsOf, h9]
          exact key _ hm
        show cvT E w t (a.tmps.getD k undef)
        have ht' : gt (slAt base (infs (ys.take i))) k = t := ht
        have hit : infs (ys.take i) = (infs ys).take i := by simp [infs, List.map_take]
        rw [hit] at ht'
        have hgx : ∀ (j : Nat) (z : Inf), (infs ys)[j]? = some z → ∃ y', ys[j]? = some y' ∧ y'.x = z := fun j z h => by
          simp only [infs, List.getElem?_map, Option.map_eq_some_iff] at h; exact h
        cases hw : writer (infs ys) k with
        | none =>
          have hno : ∀ z ∈ infs ys, z.d ≠ k := by
            intro z hz e
            have := List.findIdx?_eq_none_iff.1 hw z hz
            rw [e] at this; simp at this
          rw [slAt_gt _ _ (fun z hz => hno z (List.mem_of_mem_take hz))] at ht'
          rw [← ht']
          exact hI.old k (fun j y' _ hy => hno y'.x (List.mem_map.2 ⟨y', List.mem_of_getElem? hy, rfl⟩)) (fun d hd => by rw [ht']; exact hnt d hd)
        | some j =>
          have hs := hslot i y hx k hks j hw
          obtain ⟨hjl, hjp, _⟩ := List.findIdx?_eq_some_iff_getElem.1 hw
          have hjd : (infs ys)[j].d = k := Nat.eq_of_beq_eq_true hjp
          obtain ⟨yj, hyj, hyx⟩ := hgx j _ (List.getElem?_eq_getElem hjl)
          have hju : ∀ j' z, (infs ys)[j']? = some z → z.d = k → j' = j := fun j' z hy he => dsts_inj hdst j' j z (infs ys)[j] hy (List.getElem?_eq_getElem hjl) (by rw [he, hjd])
          by_cases hji : j < i
          · rw [if_pos (by simp [nlt]; omega)] at hs
            have hdone := hanc j hs
            have h9 := slAt_gt_of (base := base) ((infs ys).take i) j (infs ys)[j] (by rw [List.getElem?_take, if_pos hji]; exact List.getElem?_eq_getElem hjl) (fun j' z hy he => hju j' z (by rw [List.getElem?_take] at hy; split at hy; exact hy; cases hy) (by rw [he, hjd]))
            rw [hjd] at h9
            have := hI.out j yj hdone hyj (fun d hd => by rw [hyx, ← h9, ht']; exact hnt d hd)
            rw [hyx, hjd] at this
            rw [← ht', h9]; exact this
          · rw [if_neg (by simp [nlt]; omega)] at hs
            rw [slAt_gt _ _ (fun z hz e => by
              obtain ⟨j', hj'⟩ := List.getElem?_of_mem hz
              rw [List.getElem?_take] at hj'
              split at hj'
              · rename_i hlt; have := hju j' z hj' e; omega
              · cases hj')] at ht'
            rw [← ht']
            refine hI.old k (fun j' y' hj' hy he => ?_) (fun d hd => by rw [ht']; exact hnt d hd)
            have hjj := hju j' y'.x (by simp [infs, hy]) he
            subst hjj
            rcases hs with rfl | hs
            · rw [hun] at hj'; cases hj'
            · rw [hanc' j' hs] at hj'; cases hj'
      | const v => have := (show Rel N cx E ⟨[], [], base.nx⟩ a w → cvT E w (opT [] (.const v)) (a.eval (.const v)) from fun h => h.op _); rw [← ht]; cases v <;> simp only [opT, Act.eval, cvT, cvV] <;> first | exact constC_ok E w _ | exact ⟨_, rfl, CV_const E w _⟩ | (simp only [cvC, rdD])
      | func f => rw [← ht]; simp [opT, Act.eval, cvT, cvV, cvC]
      | global g => rw [← ht]; trivial
    have hnob : ∀ l ob, (l, ob) ∈ y.x.nob → relOb E w l ob := by
      intro l ob hm
      have hgo := t2 l ob hm
      refine hI.obs l ob ?_ (fun d hd => by
        have := hsp d hd
        simp only [speaks, Bool.or_eq_false_iff] at this
        refine ⟨fun e => ?_, by simpa using List.any_eq_false.1 this.2 (l, ob) hm⟩
        subst e
        have h9 : memN (labsOf y) l = true := List.any_eq_true.2 ⟨l, by simp only [labsOf, List.mem_append, List.mem_map]; exact .inl ⟨_, hm, rfl⟩, by simp⟩
        rw [h9] at this; cases this.1.2)
      rw [← hgo, obX, ← obF_take (p := fun j => decide (j < i)) (k := 0) (n := i) (fun j => by simp)]
      refine obF_congr rfl (fun j z hz hj => ?_)
      rw [Nat.zero_add]
      exact hord l (by simp only [labsOf, List.mem_append, List.mem_map]; exact .inl ⟨_, hm, rfl⟩) j z hz hj
    have hgi : (infs ys)[i]? = some y.x := by simp [infs, hx]
    have hfresh : ∀ l ob, (l, ob) ∈ y.x.nw → E.r l = none := by
      intro l ob hm
      cases hr : E.r l with
      | none => rfl
      | some p =>
        have hlr := (labs_range hlab).2 i y.x l ob hgi hm
        rcases hI.dom l p hr with h | ⟨j, z, ob', h1, h2, h3⟩
        · omega
        · have := (labs_func hlab i j y.x z.x l ob ob' hgi (by simp [infs, h2]) hm h3).1
          subst this; rw [hun] at h1; cases h1
    have hnext : ∀ v E' w', EnvOK cx E' w' → ExtK y.up y.kl E w E' w' → cvT E' w' y.x.out v → (∀ l ob, (l, ob) ∈ y.x.nw → relOb E' w' l ob) → (∀ l ob, (l, ob) ∈ y.up → relOb E' w' l ob) → (∀ l x, E'.r l = some x → E.r l = some x ∨ ∃ ob, (l, ob) ∈ y.x.nw) →
        wpAny P .any ops Q (unl ops (listed.setIfInBounds (f i) true)) (listed.setIfInBounds (f i) true) (a.put (some y.x.d) v) w' := by
      intro v E' w' k1 k2 k3 k4 k4' k5
      refine ih _ _ _ E' ?_ (by simpa using hsz) (closed_step hsz hio ho hd hcl) (fun j hj => ?_) (fun j hj hj' => ?_) (inv2_step hI hdst hx (by omega) (fun j hj e => hinj i j hil hj e) hun t4 (fun l hl => hord l (touch_labs hl)) k1 k2 k3 k4 k4' k5)
      · have hcount : ∀ (l : List Nat), l.Nodup → (∀ k ∈ l, k < ys.length) → i ∈ l → (l.filter fun k => !listed.getD (f k) false).length = (l.filter fun k => !(listed.setIfInBounds (f i) true).getD (f k) false).length + 1 := by
          intro l
          induction l with
          | nil => intro _ _ h; cases h
          | cons k l ihl =>
            intro hnd hbd hm
            obtain ⟨hk1, hk2⟩ := List.nodup_cons.1 hnd
            by_cases hki : i = k
            · subst hki
              have hsame : (l.filter fun k => !listed.getD (f k) false) = (l.filter fun k => !(listed.setIfInBounds (f i) true).getD (f k) false) := by
                apply List.filter_congr
                intro z hz
                rw [getD_listed (by omega), if_neg (fun e => hk1 (by have : i = z := hinj i z hil (hbd z (by simp [hz])) e
                                                                     rw [this]; exact hz))]
              rw [List.filter_cons_of_pos (by simp only [Bool.not_eq_true']; exact hun), List.filter_cons_of_neg (by rw [getD_listed (by omega), if_pos rfl]; simp), hsame, List.length_cons]
            · have hml : i ∈ l := by rcases List.mem_cons.1 hm with e | e; exact absurd e hki; exact e
              have := ihl hk2 (fun z hz => hbd z (by simp [hz])) hml
              have hgk : (listed.setIfInBounds (f i) true).getD (f k) false = listed.getD (f k) false := by rw [getD_listed (by omega), if_neg (fun e => hki (hinj i k hil (hbd k (by simp)) e))]
              cases hgd : listed.getD (f k) false with
              | true => rw [List.filter_cons_of_neg (by simp only [hgd]; simp), List.filter_cons_of_neg (by simp only [hgk, hgd]; simp)]; exact this
              | false => rw [List.filter_cons_of_pos (by simp only [hgd]; simp), List.filter_cons_of_pos (by simp only [hgk, hgd]; simp), List.length_cons, List.length_cons, this]
        have := hcount (List.range ys.length) List.nodup_range (fun k hk => by simpa using hk) (by simpa using hil)
        omega
      · rw [getD_listed (by omega)]; split
        · rfl
        · exact hpre j hj
      · rw [getD_listed (by omega), if_neg (hj' i hil)]; exact hpost j hj hj'
    have hrun : ∀ needs, (∀ z t, (z, t) ∈ needs → cvT E w t (a.eval z)) → AWK P o needs y.x.nob y.x.out y.x.nw y.up y.kl → o.wp P a w (wpAny P .any ops Q (unl ops (listed.setIfInBounds (f i) true)) (listed.setIfInBounds (f i) true)) Q := by
      intro needs hne hawn
      refine wp_monoQ (fun _ _ _ h => h.elim) (Oper.wp_mono ?_ (hawn cx E a w hI.ok hne hnob (fun l ob hm => ⟨hfresh l ob hm, labs_rsv hlab i y.x l ob hgi hm⟩)))
      rintro a' w' ⟨v, E', rfl, k1, k2, k3, k4, k4', k5⟩
      rw [put_dst t3 hI.size]
      exact hnext v E' w' k1 k2 k3 k4 k4' k5
    have hguard : ∀ j dj (b : Bool), (ops[j]?).bind (·.dst) = some dj → dj < N → cvT E w (tB b) (a.eval (.tmp dj)) → yielded ops a.tmps j = some b := by
      intro j dj b hj hdj hcv
      have hb : a.tmps.getD dj undef = .bool b := by simpa [cvT, cvV, cvC, rdD, Act.eval] using hcv
      have hs : dj < a.tmps.size := by rw [hI.size]; exact hdj
      have h2 : a.tmps[dj]? = some (.bool b) := by
        rw [Array.getElem?_eq_getElem hs]; simpa [Array.getD, hs] using hb
      unfold yielded
      cases ho' : ops[j]? with
      | none => simp [ho'] at hj
      | some o' => simp [ho'] at hj; simp [hj, h2]
    unfold wpOp
    simp only [ho]
    rcases t5 with ⟨hg, hawn⟩ | ⟨j, dj, b, zs, hg, hj, hdj, hnd, hawn⟩ | ⟨j, dj, b, t, hg, hj, hdj, hnd, hno, hout, hnw, hup, hkl⟩
    · rw [if_pos (by simp [Region.wanted, hg])]
      exact .inl (hrun _ hneeds hawn)
    · have hy := hguard j dj b hj hdj (hneeds (.tmp dj) (tB b) (by rw [hnd]; simp))
      rw [if_pos (by simp [Region.wanted, hg, hy])]
      exact .inl (hrun zs (fun z t hm => hneeds z t (by rw [hnd]; exact .tail _ hm)) hawn)
    · have hy := yield_no (N := N) (ops := ops) (hneeds (.tmp dj) t (by rw [hnd]; simp)) (by rw [hI.size]; exact hdj) hj hno
      rw [if_neg (by simp [Region.wanted, hg, hy]), put_dst t3 hI.size]
      exact hnext undef E w hI.ok (by rw [hup, hkl]; exact .of_extW (.of_ext (Ext.refl E w))) (by rw [hout]; exact ⟨#[], rfl, trivial⟩) (by rw [hnw]; simp) (by rw [hup]; simp) (fun _ _ h => .inl h)
end
end Go.AM
