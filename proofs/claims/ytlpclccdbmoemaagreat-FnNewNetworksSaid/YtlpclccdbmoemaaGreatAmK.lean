/-
  The abstract machine, part K: regions that draw their order: every order gives the same.
-/
import Derived.Test.YtlpclccdbmoemaaGreatAmJ
set_option linter.unusedVariables false
namespace Go.AM
open Go.RowKit

theorem opT_same {s t : List (Nat × T)} (h : ∀ k, gt s k = gt t k) (x : Operand) : opT s x = opT t x := by
  cases x with
  | tmp k => exact h k
  | const v => cases v <;> rfl
  | _ => rfl
theorem Lk_same {s t : List (Nat × T)} (h : ∀ k, gt s k = gt t k) : ∀ {l : List (Operand × T)}, Lk s l → Lk t l
  | [], _ => trivial
  | (x, v) :: r, hl => ⟨by rw [← opT_same h]; exact hl.1, Lk_same h hl.2⟩
section
variable {P : Program} {N : Nat} {ops : Array Oper} {l : List Oper} {o : Oper} {st st' st2 : St} {K : List Inf → St → Prop} {is : List Inf}
theorem same_put {s t : St} (h : Same s t) (d : Tmp) (v : T) (nw : List (Nat × Ob)) (n : Nat) : Same ⟨(d, v) :: s.sl, nw ++ s.ob, n⟩ ⟨(d, v) :: t.sl, nw ++ t.ob, n⟩ := by
  refine ⟨fun k => ?_, by rw [h.2.1], rfl⟩
  by_cases hk : d = k
  · subst hk; rw [gt_same, gt_same]
  · rw [gt_other _ _ hk, gt_other _ _ hk]; exact h.1 k
theorem Same.trans {a b c : St} (h : Same a b) (k : Same b c) : Same a c := ⟨fun i => (h.1 i).trans (k.1 i), h.2.1.trans k.2.1, h.2.2.trans k.2.2⟩
theorem ns_same {x : Inf} (h : Same st st2) (hn : NS P N o st2 st' x) : ∃ s', NS P N o st s' x ∧ Same s' st' := by
  obtain ⟨h1, h2, h3, h4, h5, h6, h7⟩ := hn
  refine ⟨⟨(x.d, x.out) :: st.sl, x.nw ++ st.ob, st'.nx⟩, ⟨h1, h2, h3, Lk_same (fun k => (h.1 k).symm) h4, by rw [h.2.1]; exact h5, by rw [h.2.2]; exact h6, rfl⟩, ?_⟩
  rw [h7]
  exact same_put h _ _ _ _
theorem dr_same (h : Same st st2) (hd : DR P N ops (o :: l) is st2 K) : DR P N ops (o :: l) is st K := by
  obtain ⟨x, st1, st', hds, hs, hr⟩ := hd
  rcases hds with ⟨hg, hn⟩ | ⟨j, dj, b, y, hg, hj, hdj, hb, hn, rfl⟩ | ⟨j, dj, b, d, hg, hj, hdj, hb, hd, hN, rfl, rfl⟩
  · obtain ⟨s', k1, k2⟩ := ns_same h hn
    exact ⟨x, s', st', .inl ⟨hg, k1⟩, k2.trans hs, hr⟩
  · obtain ⟨s', k1, k2⟩ := ns_same h hn
    exact ⟨_, s', st', .inr (.inl ⟨j, dj, b, y, hg, hj, hdj, by rw [h.1]; exact hb, k1, rfl⟩), k2.trans hs, hr⟩
  · refine ⟨_, ⟨(d, .tup []) :: st.sl, st.ob, st.nx⟩, st', .inr (.inr ⟨j, dj, b, d, hg, hj, hdj, by rw [h.1]; exact hb, hd, hN, by rw [h.1], rfl⟩), Same.trans ?_ hs, hr⟩
    have := same_put h d (.tup []) [] st.nx
    refine ⟨this.1, this.2.1, h.2.2⟩
theorem dr_split {d : Tmp} {b : Bool} (hb : gt st.sl d = tB b) (h1 : b = true → DR P N ops (o :: l) is ⟨(d, tB true) :: st.sl, st.ob, st.nx⟩ K) (h0 : b = false → DR P N ops (o :: l) is ⟨(d, tB false) :: st.sl, st.ob, st.nx⟩ K) : DR P N ops (o :: l) is st K := by
  cases hc : b with
  | true => exact dr_same (same_decide hb hc) (h1 hc)
  | false => exact dr_same (same_decide hb hc) (h0 hc)
end

/-! the check -/
def slotsOf : List (Operand × T) → List Nat
  | [] => []
  | (.tmp k, _) :: r => k :: slotsOf r
  | _ :: r => slotsOf r
/-- j lies ahead of i by the region's own edges. -/
def anc (ops : Array Oper) : Nat → Nat → Nat → Bool
  | 0, _, _ => false
  | n + 1, i, j => match ops[i]? with
    | none => false
    | some o => o.after.toList.any fun e => Region.binds .any e && (Nat.beq e.on j || anc ops n e.on j)
/-- The operation that writes slot k. -/
def writer (is : List Inf) (k : Nat) : Option Nat := is.findIdx? fun x => Nat.beq x.d k
def maker (is : List Inf) (l : Nat) : Option Nat := is.findIdx? fun x => x.nw.any fun p => Nat.beq p.1 l
def dstsOk : List Inf → Bool
  | [] => true
  | x :: xs => !(xs.any fun y => Nat.beq x.d y.d) && dstsOk xs
def drawOK (ops : Array Oper) (is : List Inf) (nx : Nat) : Bool :=
  Nat.beq is.length ops.size && dstsOk is &&
  (List.range is.length).all fun i => match is[i]?, ops[i]? with
    | some x, some o =>
      (o.after.toList.all fun e => !Region.binds .any e || nlt e.on i) &&
      ((slotsOf x.needs).all fun k => match writer is k with
        | none => true
        | some j => if nlt j i then anc ops is.length i j else Nat.beq i j || anc ops is.length j i) &&
      (x.nob.all fun p => nlt p.1 nx || match maker is p.1 with
        | none => false
        | some j => anc ops is.length i j)
    | _, _ => false

/-- The state as the text's order leaves it. -/
def after (base : St) : List Inf → List (Nat × T) × List (Nat × Ob)
  | is => (is.foldl (fun s x => (x.d, x.out) :: s) base.sl, is.foldl (fun s x => x.nw ++ s) base.ob)
def slAt (base : St) (is : List Inf) : List (Nat × T) := is.foldl (fun s x => (x.d, x.out) :: s) base.sl
def obAt (base : St) (is : List Inf) : List (Nat × Ob) := is.foldl (fun s x => x.nw ++ s) base.ob
theorem slAt_snoc (base : St) (is : List Inf) (x : Inf) : slAt base (is ++ [x]) = (x.d, x.out) :: slAt base is := by simp [slAt]
theorem obAt_snoc (base : St) (is : List Inf) (x : Inf) : obAt base (is ++ [x]) = x.nw ++ obAt base is := by simp [obAt]
/-- What a run in the text's order tells of its k-th operation. -/
def Told (P : Program) (N : Nat) (ops : Array Oper) (base : St) (pre : List Inf) (o : Oper) (x : Inf) : Prop :=
  (∀ y t, (y, t) ∈ x.needs → opT (slAt base pre) y = t) ∧ (∀ l ob, (l, ob) ∈ x.nob → go (obAt base pre) l = some ob) ∧ o.dst = some x.d ∧ x.d < N ∧
  ((o.guard = none ∧ AWN P o x.needs x.nob x.out x.nw) ∨
   (∃ j dj b ys, o.guard = some (j, b) ∧ (ops[j]?).bind (·.dst) = some dj ∧ dj < N ∧ x.needs = (.tmp dj, tB b) :: ys ∧ AWN P o ys x.nob x.out x.nw) ∨
   (∃ j dj b t, o.guard = some (j, b) ∧ (ops[j]?).bind (·.dst) = some dj ∧ dj < N ∧ x.needs = [(.tmp dj, t)] ∧ noG b t = true ∧ x.out = .tup [] ∧ x.nw = []))
/-- The labels that the operations make follow one another. -/
def LabsFrom (nx : Nat) : List Inf → Nat → Prop
  | [], n => n = nx
  | x :: xs, n => ∃ m, Nw nx x.nw m ∧ LabsFrom m xs n
theorem LabsFrom.snoc {x : Inf} : ∀ {is : List Inf} {nx n m : Nat}, LabsFrom nx is n → Nw n x.nw m → LabsFrom nx (is ++ [x]) m
  | [], nx, n, m, h, h' => by have : n = nx := h; subst this; exact ⟨m, h', rfl⟩
  | y :: ys, nx, n, m, ⟨k, h1, h2⟩, h' => ⟨k, h1, LabsFrom.snoc h2 h'⟩
theorem dr_told {P : Program} {N : Nat} {ops : Array Oper} {base : St} {K : List Inf → St → Prop} : ∀ {l : List Oper} {is : List Inf} {st : St}, DR P N ops l is st K → (∀ k, gt st.sl k = gt (slAt base is) k) → st.ob = obAt base is → LabsFrom base.nx is st.nx →
    ∃ xs st', xs.length = l.length ∧ (∀ (i : Nat) (o : Oper) (x : Inf), l[i]? = some o → xs[i]? = some x → Told P N ops base (is ++ xs.take i) o x) ∧ LabsFrom base.nx (is ++ xs) st'.nx ∧ (∀ k, gt st'.sl k = gt (slAt base (is ++ xs)) k) ∧ st'.ob = obAt base (is ++ xs) ∧ K (is ++ xs) st'
  | [], is, st, h, h1, h2, h3 => ⟨[], st, rfl, by simp, by simpa using h3, by simpa using h1, by simpa using h2, by simpa [DR] using h⟩
  | o :: l, is, st, ⟨x, st1, st2, hds, hsame, hr⟩, h1, h2, h3 => by
    have hput : ∀ (out : T) (nw : List (Nat × Ob)) (n : Nat), x.out = out → x.nw = nw → st1 = ⟨(x.d, out) :: st.sl, nw ++ st.ob, n⟩ → Nw st.nx nw n → ((∀ k, gt st2.sl k = gt (slAt base (is ++ [x])) k) ∧ st2.ob = obAt base (is ++ [x])) ∧ LabsFrom base.nx (is ++ [x]) st2.nx := by
      rintro out nw n rfl rfl rfl hnw
      refine ⟨⟨fun k => ?_, ?_⟩, ?_⟩
      · rw [← hsame.1 k, slAt_snoc]
        by_cases hk : x.d = k
        · rw [hk, gt_same, gt_same]
        · rw [gt_other _ _ hk, gt_other _ _ hk]; exact h1 k
      · rw [← hsame.2.1, obAt_snoc, h2]
      · rw [← hsame.2.2]; exact h3.snoc hnw
    have key : Told P N ops base is o x ∧ ((∀ k, gt st2.sl k = gt (slAt base (is ++ [x])) k) ∧ st2.ob = obAt base (is ++ [x])) ∧ LabsFrom base.nx (is ++ [x]) st2.nx := by
      rcases hds with ⟨hg, k1, k2, k3, k4, k5, k6, k7⟩ | ⟨j, dj, b, y, hg, hj, hdj, hb, ⟨k1, k2, k3, k4, k5, k6, k7⟩, rfl⟩ | ⟨j, dj, b, d, hg, hj, hdj, hb, hd, hN, rfl, rfl⟩
      · exact ⟨⟨fun y t hm => by rw [← opT_same h1]; exact Lk.mem k4 y t hm, fun l' ob hm => by rw [← h2]; exact Lo.mem k5 l' ob hm, k2, k3, .inl ⟨hg, k1⟩⟩, hput _ _ _ rfl rfl k7 k6⟩
      · refine ⟨⟨fun y' t hm => ?_, fun l' ob hm => by rw [← h2]; exact Lo.mem k5 l' ob hm, k2, k3, .inr (.inl ⟨j, dj, b, y.needs, hg, hj, hdj, rfl, k1⟩)⟩, hput _ _ _ rfl rfl k7 k6⟩
        rw [← opT_same h1]
        rcases List.mem_cons.1 hm with e | hm
        · cases e; exact hb
        · exact Lk.mem k4 y' t hm
      · refine ⟨⟨fun y' t hm => ?_, by simp, hd, hN, .inr (.inr ⟨j, dj, b, _, hg, hj, hdj, rfl, hb, rfl, rfl⟩)⟩, hput (.tup []) [] st.nx rfl rfl rfl rfl⟩
        rw [← opT_same h1]
        simp at hm; obtain ⟨rfl, rfl⟩ := hm; rfl
    obtain ⟨hT, ⟨m1, m2⟩, m3⟩ := key
    obtain ⟨xs, st', n1, n2, n3, n4, n5, n6⟩ := dr_told hr m1 m2 m3
    refine ⟨x :: xs, st', by simp [n1], fun i o' x' hi hx => ?_, by simpa using n3, by simpa using n4, by simpa using n5, by simpa using n6⟩
    cases i with
    | zero => simp at hi hx; subst hi; subst hx; simpa using hT
    | succ i => have := n2 i o' x' (by simpa using hi) (by simpa using hx); simpa using this
end Go.AM
