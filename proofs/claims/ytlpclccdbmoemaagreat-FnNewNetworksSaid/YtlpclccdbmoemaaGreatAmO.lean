/-
  The abstract machine, part O: what came in as an argument, as data.
-/
import Derived.Test.YtlpclccdbmoemaaGreatAmN
import Derived.Deep.Slices
import Derived.WideShapes
import Derived.ProofKit
import Derived.OpenShut
import Derived.ChangeOld
set_option linter.unusedVariables false
namespace Go.AM
open Go.RowKit Go.ChangeShapes Go.WideShapes Go.Deep

/-- The shape of a cell. -/
inductive Sh where
  | i (k : IntKind)
  | b
  | str
  | l (e : List Sh)
mutual
inductive WT : Sh → D → Prop
  | i {k : IntKind} {n : Int} (h : (Lit.int k n).wf = true) : WT (.i k) (.i k n)
  | b {x : Bool} : WT .b (.b x)
  | str {s : ByteArray} (h : s.size ≤ maxLen) : WT .str (.str s)
  | l {e : List Sh} {xs : List (List D)} (hl : xs.length ≤ maxLen) (h : WTL e xs) : WT (.l e) (.l xs)
inductive WTs : List Sh → List D → Prop
  | nil : WTs [] []
  | cons {s : Sh} {ss : List Sh} {x : D} {xs : List D} (h : WT s x) (h' : WTs ss xs) : WTs (s :: ss) (x :: xs)
inductive WTL : List Sh → List (List D) → Prop
  | nil {e : List Sh} : WTL e []
  | cons {e : List Sh} {x : List D} {xs : List (List D)} (h : WTs e x) (h' : WTL e xs) : WTL e (x :: xs)
end
theorem WTs.len : ∀ {ss : List Sh} {xs : List D}, WTs ss xs → xs.length = ss.length
  | _, _, .nil => rfl
  | _, _, .cons _ h => by simp [WTs.len h]
theorem WTs.append : ∀ {ss ts : List Sh} {xs ys : List D}, WTs ss xs → WTs ts ys → WTs (ss ++ ts) (xs ++ ys)
  | _, _, _, _, .nil, h => h
  | _, _, _, _, .cons h h', k => .cons h (h'.append k)
mutual
inductive HasSh (P : Program) : TypeId → List Sh → Prop
  | int {t : TypeId} {k : IntKind} (h : P.underlying t = some (.int k)) : HasSh P t [.i k]
  | bool {t : TypeId} (h : P.underlying t = some .bool) : HasSh P t [.b]
  | string {t : TypeId} (h : P.underlying t = some .string) : HasSh P t [.str]
  | slice {t e : TypeId} {ss : List Sh} (h : P.underlying t = some (.slice e)) (he : HasSh P e ss) (hc : P.cellsOf e = ss.length) (hp : 0 < ss.length) : HasSh P t [.l ss]
  | struct {t : TypeId} {fs : Array Field} {ss : List Sh} (h : P.underlying t = some (.struct fs)) (hf : HasFs P 0 fs.toList ss) (hc : P.cellsOf t = ss.length) : HasSh P t ss
inductive HasFs (P : Program) : Nat → List Field → List Sh → Prop
  | nil {o : Nat} : HasFs P o [] []
  | cons {o : Nat} {f : Field} {fs : List Field} {s1 s2 : List Sh} (ho : f.offset = o) (h : HasSh P f.type s1) (hc : P.cellsOf f.type = s1.length) (h' : HasFs P (o + s1.length) fs s2) : HasFs P o (f :: fs) (s1 ++ s2)
end
theorem DV_append {w : World} {F : Nat → Prop} : ∀ {xs ys : List D} {us vs : List Value}, DV w F xs us → DV w F ys vs → DV w F (xs ++ ys) (us ++ vs)
  | [], _, [], _, _, h => h
  | _ :: _, _, _ :: _, _, h, k => ⟨h.1, DV_append h.2 k⟩
  | [], _, _ :: _, _, h, _ => h.elim
  | _ :: _, _, [], _, h, _ => h.elim
section
variable {H : Type} {enc : TypeId × Value → H} {P : Program} {w : World} {spare : Nat → Bool} {held : Bool}
theorem rdL_of_DV {F : Nat → Prop} : ∀ {xs : List D} {us : List Value} {b k : Nat}, DV w F xs us → (∀ j, j < us.length → w.cell? ⟨b, k + j, none⟩ = us[j]?) → rdL w F xs b k
  | [], [], _, _, _, _ => by simp [rdL]
  | x :: xs, u :: us, b, k, h, hc => by
    rw [rdL]
    refine ⟨⟨u, by simpa using hc 0 (by simp), h.1⟩, rdL_of_DV h.2 fun j hj => ?_⟩
    have := hc (j + 1) (by simp; omega)
    rw [show k + (j + 1) = k + 1 + j from by omega] at this
    simpa using this
  | [], _ :: _, _, _, h, _ => h.elim
  | _ :: _, [], _, _, h, _ => h.elim
mutual
/-- What a value that came in reads as. -/
theorem open_sh : ∀ {t : TypeId} {ss : List Sh}, HasSh P t ss → ∀ {fuel : Nat} {cs : List Value} {x : DataW H × List MemPlace}, DataW.trod enc P w 0 (fun _ => true) held fuel t cs = some x →
    ∃ xs, WTs ss xs ∧ DV w (fun b => b < w.heap.size) xs cs
  | _, _, .int ht, fuel, cs, x, h => by
    obtain ⟨n, rfl, _, hw⟩ := DataW.trod_int ht h
    exact ⟨[.i _ n], .cons (.i hw) .nil, by simp [rdD], trivial⟩
  | _, _, .bool ht, fuel, cs, x, h => by
    obtain ⟨b, rfl, _⟩ := DataW.trod_bool ht h
    exact ⟨[.b b], .cons .b .nil, by simp [rdD], trivial⟩
  | _, _, .string ht, fuel, cs, x, h => by
    obtain ⟨s, rfl, _, hs⟩ := DataW.trod_string ht h
    exact ⟨[.str s], .cons (.str hs) .nil, by simp [rdD], trivial⟩
  | _, _, .slice (ss := ss) (e := e) ht he hc hp, fuel, cs, x, h => by
    rcases open_slice ht h with ⟨rfl, _⟩ | ⟨a, len, cap, m, n, Dt, Pl, rfl, _, hl, hm, hmm, _, hi⟩
    · exact ⟨[.l []], .cons (.l (Nat.zero_le _) .nil) .nil, by rw [rdD]; exact ⟨none, 0, rfl, Nat.le_refl _, .inl rfl⟩, trivial⟩
    · have hmc : m = cap := by simpa using hmm
      have each : ∀ i, i < len → ∃ xs, WTs ss xs ∧ ∃ us, us.length = ss.length ∧ DV w (fun b => b < w.heap.size) xs us ∧ ∀ j, j < ss.length → w.cell? ((a.add (i * ss.length)).add j) = us[j]? := by
        intro i hil
        obtain ⟨cs', h1, h2⟩ := hi i (by omega)
        obtain ⟨_, h3, h4⟩ := World.cells?_some h1
        obtain ⟨xs, k1, k2⟩ := open_sh he h2
        rw [hc] at h3 h4
        exact ⟨xs, k1, cs', h3, k2, h4⟩
      by_cases h0 : len = 0
      · subst h0
        exact ⟨[.l []], .cons (.l (Nat.zero_le _) .nil) .nil, by rw [rdD]; exact ⟨some a, cap, rfl, Nat.zero_le _, .inl rfl⟩, trivial⟩
      · -- the address is a plain one
        obtain ⟨xs0, k1, us0, k2, k3, k4⟩ := each 0 (by omega)
        have hc0 := k4 0 hp
        have hu0 : ∃ u, us0[0]? = some u := ⟨_, List.getElem?_eq_getElem (by omega)⟩
        obtain ⟨u0, hu0⟩ := hu0
        have hcell : w.cell? a = some u0 := by rw [← hu0, ← hc0]; simp [Addr.add]
        obtain ⟨b, off, spot⟩ := a
        have hsp : spot = none := by
          cases spot with
          | none => rfl
          | some s => exfalso; simp [World.cell?] at hcell; split at hcell <;> cases hcell
        subst hsp
        have hb : b < w.heap.size := World.block_lt_of_cell? w ⟨b, off, none⟩ hcell
        have build : ∀ n i, i + n = len → ∃ els, WTL ss els ∧ els.length = n ∧ (∀ e' ∈ els, e'.length = ss.length) ∧ rdLL w (fun b => b < w.heap.size) els b (off + i * ss.length) := by
          intro n
          induction n with
          | zero => intro i _; exact ⟨[], .nil, rfl, by simp, by simp [rdLL]⟩
          | succ n ihn =>
            intro i hin
            obtain ⟨xs, l1, us, l2, l3, l4⟩ := each i (by omega)
            obtain ⟨els, m1, m2, m3, m4⟩ := ihn (i + 1) (by omega)
            have hxl := l1.len
            refine ⟨xs :: els, .cons l1 m1, by simp [m2], by simpa using ⟨hxl, m3⟩, ?_⟩
            rw [rdLL]
            refine ⟨rdL_of_DV l3 fun j hj => ?_, ?_⟩
            · have := l4 j (by omega)
              rw [add_at, add_at] at this; exact this
            · rw [hxl]
              rwa [show off + (i + 1) * ss.length = off + i * ss.length + ss.length from by rw [Nat.add_mul]; omega] at m4
        obtain ⟨els, m1, m2, m3, m4⟩ := build len 0 (by omega)
        refine ⟨[.l els], .cons (.l (by rw [m2]; omega) m1) .nil, ?_, trivial⟩
        rw [rdD]
        exact ⟨_, _, by rw [m2], by rw [m2]; exact hl, .inr ⟨b, off, rfl, hb, by simpa using m4⟩⟩
  | _, _, .struct (fs := fs) ht hf hc, fuel, cs, x, h => by
    obtain ⟨ys, n, _, _, h3, h4, h5⟩ := DataW.trod_struct ht h
    have key := open_fs hf (fuel := n) (cs := cs) (fun f hf => by
      obtain ⟨i, hi⟩ := List.getElem?_of_mem hf
      have h6 := h5 i f (by simpa using hi)
      have hlt : i < ys.length := by rw [h4]; simpa using (List.getElem?_eq_some_iff.1 hi).1
      exact ⟨_, h6.trans (List.getElem?_eq_getElem hlt)⟩)
    obtain ⟨xs, k1, k2⟩ := key
    refine ⟨xs, k1, ?_⟩
    rw [List.drop_zero, ← hc, ← h3, List.take_length] at k2
    exact k2
theorem open_fs : ∀ {o : Nat} {fs : List Field} {ss : List Sh}, HasFs P o fs ss → ∀ {fuel : Nat} {cs : List Value}, (∀ f ∈ fs, ∃ x, DataW.trod enc P w 0 (fun _ => true) held fuel f.type ((cs.drop f.offset).take (P.cellsOf f.type)) = some x) →
    ∃ xs, WTs ss xs ∧ DV w (fun b => b < w.heap.size) xs ((cs.drop o).take ss.length)
  | _, _, _, .nil, fuel, cs, h => ⟨[], .nil, by simp [DV]⟩
  | o, _, _, .cons (f := f) (s1 := s1) (s2 := s2) ho hs hc hf, fuel, cs, h => by
    obtain ⟨x, hx⟩ := h f (by simp)
    obtain ⟨xs1, k1, k2⟩ := open_sh hs hx
    obtain ⟨xs2, m1, m2⟩ := open_fs hf (fun g hg => h g (by simp [hg]))
    refine ⟨xs1 ++ xs2, k1.append m1, ?_⟩
    rw [ho, hc] at k2
    have := DV_append k2 m2
    rwa [List.length_append, List.take_add, List.drop_drop]
end
theorem one_cell {t : TypeId} {r : Reach} {b0 : Nat} {v : Value} {s : Sh} (hs : HasSh P t [s]) (hn : ∀ fs, P.underlying t ≠ some (.struct fs)) (hv : Value.okWide P w r b0 t v) : v.cells.toList = [v] := by
  cases hs with
  | int h => obtain ⟨n, rfl⟩ := okWide_int h hv; rfl
  | bool h => obtain ⟨n, rfl⟩ := okWide_bool h hv; rfl
  | string h => obtain ⟨n, rfl⟩ := okWide_string h hv; rfl
  | slice h => obtain ⟨a, l, c, rfl⟩ := okWide_slice h hv; rfl
  | struct h => exact absurd h (hn _)
theorem open_c {t : TypeId} {r : Reach} {b0 : Nat} {v : Value} {d : DataW H} {p : List MemPlace} {s : Sh} (hs : HasSh P t [s]) (hn : ∀ fs, P.underlying t ≠ some (.struct fs)) (hv : Value.okWide P w r b0 t v) (h : DataW.Trod enc P w 0 (fun _ => true) held t v d p) :
    ∃ x, WT s x ∧ avR w (fun b => b < w.heap.size) (.c x) v := by
  obtain ⟨fuel, hf⟩ := h
  rw [one_cell hs hn hv] at hf
  obtain ⟨xs, h1, h2⟩ := open_sh hs hf
  cases h1 with
  | cons h h' => cases h' with
    | nil => exact ⟨_, h, h2.1⟩
end
/-- A list of elements of one shape, as a list of what they are. -/
theorem WTL_map {α : Type} {e : List Sh} {f : α → List D} {p : α → Prop} (h : ∀ x, WTs e x → ∃ a, x = f a ∧ p a) : ∀ {xs : List (List D)}, WTL e xs → ∃ l : List α, xs = l.map f ∧ ∀ a ∈ l, p a
  | _, .nil => ⟨[], rfl, by simp⟩
  | _, .cons h1 h2 => by
    obtain ⟨a, rfl, ha⟩ := h _ h1
    obtain ⟨l, rfl, hl⟩ := WTL_map h h2
    exact ⟨a :: l, rfl, by simpa using ⟨ha, hl⟩⟩
theorem past_below {w w' : World} (h : Past w w' (fun _ => False)) : Below w.heap.size w w' := ⟨h.os, h.tape, h.output, h.size, fun b hb => h.block b hb (fun h => h)⟩
/-- A law's contract, as the row wants it. -/
theorem law_calls {P : Program} {f : FuncId} {args : List AV} {w : World} {vals : Array Value} (h : Fn P f args [rB true]) (hT : TabsIn w) (hA : AR w (fun b => b < w.heap.size) args vals.toList) :
    Calls P f vals w fun e w' => e = .returned (.bool true) ∧ Below w.heap.size w w' := by
  refine (h.calls _ w vals (fun _ h => h) hT hA).mono ?_
  rintro e w' ⟨v, G, bs, rfl, hp, _, hr, _⟩
  obtain ⟨_, hr⟩ := hr
  simp only [rdD] at hr
  exact ⟨by rw [hr], past_below hp⟩
end Go.AM
