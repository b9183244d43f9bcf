/-
  The abstract machine, part F: struct values, rows that are made.
-/
import Derived.Test.YtlpclccdbmoemaaGreatAmE
set_option linter.unusedVariables false
namespace Go.AM
open Go.RowKit

class TyB (P : Program) (t : TypeId) (pl : outParam (List (Nat × Nat))) : Prop where
  h : ∃ fs, P.underlying t = some (.struct fs) ∧ ∀ w, (fs.mapM (fun f => Prod.mk f.offset <$> sizeOf f.type) : Sem (Array (Nat × Nat))).run P w = .ok pl.toArray w
def constDs : List Value → Option (List D)
  | [] => some []
  | .int k n :: r => match constDs r with | some xs => some (.i k n :: xs) | none => none
  | .bool b :: r => match constDs r with | some xs => some (.b b :: xs) | none => none
  | .string s :: r => match constDs r with | some xs => some (.str s :: xs) | none => none
  | .slice none 0 0 :: r => match constDs r with | some xs => some (.l [] :: xs) | none => none
  | _ => none
/-- The zero of a row's element, as data. -/
class TyE (P : Program) (e : TypeId) (zd : outParam (List D)) : Prop where
  h : ∃ i z, P.info? e = some i ∧ i.zero = some z ∧ constDs z.cells.toList = some zd
theorem constDs_ok {w : World} {F : Nat → Prop} : ∀ {us : List Value} {xs : List D}, constDs us = some xs → us.length = xs.length ∧ ∀ (j : Nat) (xd : D), xs[j]? = some xd → ∃ u, us[j]? = some u ∧ rdD w F xd u
  | [], xs, h => by simp [constDs] at h; subst h; exact ⟨rfl, by simp⟩
  | u :: us, xs, h => by
    have key : ∃ x xs', xs = x :: xs' ∧ constDs us = some xs' ∧ rdD w F x u := by
      unfold constDs at h
      split at h
      · simp at *
      · rename_i e; injection e with e1 e2; subst e1; subst e2; split at h
        · rename_i r h1; simp at h; exact ⟨_, r, h.symm, h1, by simp [rdD]⟩
        · cases h
      · rename_i e; injection e with e1 e2; subst e1; subst e2; split at h
        · rename_i r h1; simp at h; exact ⟨_, r, h.symm, h1, by simp [rdD]⟩
        · cases h
      · rename_i e; injection e with e1 e2; subst e1; subst e2; split at h
        · rename_i r h1; simp at h; exact ⟨_, r, h.symm, h1, by simp [rdD]⟩
        · cases h
      · rename_i e; injection e with e1 e2; subst e1; subst e2; split at h
        · rename_i r h1; simp at h; exact ⟨_, r, h.symm, h1, by rw [rdD]; exact ⟨none, 0, rfl, Nat.le_refl _, .inl rfl⟩⟩
        · cases h
      · cases h
    obtain ⟨x, xs', rfl, h1, h2⟩ := key
    obtain ⟨k1, k2⟩ := constDs_ok (w := w) (F := F) h1
    refine ⟨by simp [k1], fun j xd hj => ?_⟩
    cases j with
    | zero => simp at hj; subst hj; exact ⟨u, rfl, h2⟩
    | succ j => obtain ⟨v, m1, m2⟩ := k2 j xd (by simpa using hj); exact ⟨v, by simpa using m1, m2⟩

def vcs : V → Option (List C)
  | .c c => match c.sto with | true => some [c] | false => none
  | .agg cs => some cs
theorem vcs_ok {E : Env} {w : World} {v : V} {cs : List C} {u : Value} (h : vcs v = some cs) (hv : cvV E w v u) : CV E w cs u.cells.toList := by
  cases v with
  | c c =>
    simp only [vcs] at h
    cases hs : c.sto with
    | false => simp [hs] at h
    | true => simp [hs] at h; subst h; obtain ⟨_, h2⟩ := sto_ok hs hv; rw [h2]; exact ⟨hv, trivial⟩
  | agg cs' => simp [vcs] at h; subst h; obtain ⟨arr, rfl, hc⟩ := hv; exact hc
/-- A struct's cells, the parts laid in. -/
def bfill (pl : List (Nat × Nat)) : List C → List (Nat × V) → Option (List C)
  | cs, [] => some cs
  | cs, (i, v) :: r => match pl[i]?, vcs v with
    | some (off, n), some ns => match Nat.beq ns.length n, splO off ns cs with
      | true, some cs' => bfill pl cs' r
      | _, _ => none
    | _, _ => none
def PV (E : Env) (w : World) : List (Nat × V) → List (Nat × Value) → Prop
  | [], [] => True
  | (i, v) :: r, (j, u) :: s => i = j ∧ cvV E w v u ∧ PV E w r s
  | _, _ => False
theorem CV_splice {E : Env} {w : World} {off : Nat} {ns cs r : List C} {us vs ws : List Value} (h : splO off ns cs = some r) (hn : CV E w ns us) (hc : CV E w cs vs) (hl : ws.length = vs.length)
    (hw : ∀ k, ws[k]? = if off ≤ k ∧ k < off + us.length then us[k - off]? else vs[k]?) : CV E w r ws := by
  have hln := CV_length hn
  have hlc := CV_length hc
  refine CV_of ?_ fun k c hk => ?_
  · obtain ⟨h1, h2⟩ := splO_eq h; subst h1; simp; omega
  · rw [splO_get h k] at hk
    rw [hw k, hln]
    split at hk
    · rename_i hi; rw [if_pos hi]; exact CV_at hn hk
    · rename_i hi; rw [if_neg hi]; exact CV_at hc hk
theorem fill_ok {E : Env} {w : World} {pl : List (Nat × Nat)} : ∀ {ps : List (Nat × V)} {us : List (Nat × Value)} {cs r : List C} {arr : Array Value}, PV E w ps us → CV E w cs arr.toList → bfill pl cs ps = some r →
    ∃ arr', Instr.fill (pl.toArray[·]?) arr us = some arr' ∧ CV E w r arr'.toList
  | [], [], cs, r, arr, _, hc, h => by simp [bfill] at h; subst h; exact ⟨arr, rfl, hc⟩
  | (i, v) :: ps, (j, u) :: us, cs, r, arr, hp, hc, h => by
    obtain ⟨rfl, hv, hp⟩ := hp
    simp only [bfill] at h
    split at h
    · rename_i off n ns h1 h2
      split at h
      · rename_i cs' h3 h4
        have h3' := Nat.eq_of_beq_eq_true h3
        have hcn := vcs_ok h2 hv
        have hl := CV_length hcn
        have hlc := CV_length hc
        obtain ⟨g1, g2⟩ := Go.Great.foldl_set off u.cells.toList 0 arr
        have hsz : u.cells.size = n := by simp at hl; omega
        have hle := (splO_eq h4).2
        have hsp : CV E w cs' ((u.cells.toList.zipIdx 0).foldl (fun cs (x : Value × Nat) => cs.setIfInBounds (off + x.2) x.1) arr).toList := by
          refine CV_splice h4 hcn hc (by simp [g1]) fun k => ?_
          rw [Array.getElem?_toList, g2 k]
          simp only [Nat.add_zero]
          by_cases hk : off ≤ k ∧ k < off + u.cells.toList.length
          · rw [if_pos hk, if_pos ⟨hk.1, hk.2, by simp at hlc hk; omega⟩]
          · rw [if_neg hk, if_neg (by omega)]; simp
        obtain ⟨arr', k1, k2⟩ := fill_ok (pl := pl) hp hsp h
        refine ⟨arr', ?_, k2⟩
        rw [← k1]
        conv => lhs; unfold Instr.fill
        have hpl : pl.toArray[i]? = some (off, n) := by simpa using h1
        simp only [hpl]
        rw [if_neg (by simp at hlc; simp [hsz]; omega)]
        congr 1
        rw [← Array.foldl_toList, Array.toList_zipIdx]
      · cases h
    · cases h
  | [], _ :: _, _, _, _, hp, _, _ => hp.elim
  | _ :: _, [], _, _, _, hp, _, _ => hp.elim

section
variable {P : Program} {N : Nat} {d : Option Tmp} {ty : TypeId} {ps : String} {af : Array Edge} {gd : Option (Nat × Bool)} {x y z : Operand}

theorem PV_zip {E : Env} {a : Act} {w : World} : ∀ {parts : List (Nat × Operand)} {vs : List V}, vs.length = parts.length → (∀ x t, (x, t) ∈ (parts.map (·.2)).zip (vs.map T.v) → cvT E w t (a.eval x)) →
    PV E w ((parts.map (·.1)).zip vs) (parts.map fun p => (p.1, a.eval p.2))
  | [], [], _, _ => trivial
  | (i, x) :: ps, v :: vs, hl, h => ⟨rfl, h x (.v v) (by simp), PV_zip (by simpa using hl) fun x t hm => h x t (by simp only [List.map_cons, List.zip_cons_cons]; exact .tail _ hm)⟩
  | [], _ :: _, hl, _ => by simp at hl
  | _ :: _, [], hl, _ => by simp at hl
theorem n_build {t : TypeId} {zs cs : List C} {pl : List (Nat × Nat)} {parts : List (Nat × Operand)} {vs : List V} [hz : TyZ P t zs] [hb : TyB P t pl] (hv : vs.length = parts.length)
    (h : bfill pl zs ((parts.map (·.1)).zip vs) = some cs) : AWN P ⟨d, .build t parts.toArray, ty, ps, af, gd⟩ ((parts.map (·.2)).zip (vs.map T.v)) [] (.v (.agg cs)) [] :=
  awn_pure fun E a w hn _ => by
    obtain ⟨i, z, h1, h2, h3⟩ := hz.h
    obtain ⟨fs, h4, h5⟩ := hb.h
    obtain ⟨arr', k1, k2⟩ := fill_ok (arr := z.cells) (PV_zip hv hn) (by rw [← h3]; exact CV_const _ _ _) h
    refine ⟨.agg arr', ?_, arr', rfl, k2⟩
    have k1' : Instr.fill (fun x => pl[x]?) z.cells (List.map (fun p => (p.fst, a.eval p.snd)) parts) = some arr' := by simpa using k1
    simp [execOp, Instr.build, zeroValue, typeInfo, h1, h2, underlying, h4, h5, k1']

/-- The elements that values make, as data. -/
def vsD : List V → Option (List (List D) × Bool)
  | [] => some ([], true)
  | v :: vs => match vD v, vsD vs with
    | some (e, g), some (es, g') => some (e :: es, g && g')
    | _, _ => none
theorem vsD_ok {cx : Cx} {E : Env} {w : World} (ok : EnvOK cx E w) : ∀ {vs : List V} {els : List (List D)} {g : Bool}, vsD vs = some (els, g) → els.length = vs.length ∧
    ∀ (i : Nat) (e : List D), els[i]? = some e → ∃ v g', vs[i]? = some v ∧ vD v = some (e, g') ∧ (g = true → g' = true)
  | [], els, g, h => by simp [vsD] at h; obtain ⟨rfl, rfl⟩ := h; exact ⟨rfl, by simp⟩
  | v :: vs, els, g, h => by
    cases h1 : vD v with
    | none => simp [vsD, h1] at h
    | some p =>
      obtain ⟨e, g1⟩ := p
      cases h2 : vsD vs with
      | none => simp [vsD, h1, h2] at h
      | some p =>
        obtain ⟨es, g2⟩ := p
        simp [vsD, h1, h2] at h
        obtain ⟨rfl, rfl⟩ := h
        obtain ⟨k1, k2⟩ := vsD_ok ok h2
        refine ⟨by simp [k1], fun i e' hi => ?_⟩
        cases i with
        | zero => simp at hi; subst hi; exact ⟨v, g1, rfl, h1, by simp; intro a _; exact a⟩
        | succ i => obtain ⟨v', g', m1, m2, m3⟩ := k2 i e' (by simpa using hi); exact ⟨v', g', by simpa using m1, m2, fun hg => m3 (by simp at hg; exact hg.2)⟩
/-- All elements have the size. -/
def lenO (sz : Nat) : List (List D) → Bool
  | [] => true
  | e :: es => Nat.beq e.length sz && lenO sz es
theorem lenO_ok {sz : Nat} : ∀ {els : List (List D)}, lenO sz els = true → ∀ e ∈ els, e.length = sz
  | e :: es, h, e', hm => by
    simp only [lenO, Bool.and_eq_true] at h
    rcases List.mem_cons.1 hm with rfl | hm
    · exact Nat.eq_of_beq_eq_true h.1
    · exact lenO_ok h.2 e' hm
theorem n_buildSlice {t : TypeId} {e sz by_ : Nat} {len l : Nat} {parts : List (Nat × Operand)} {vs : List V} {els : List (List D)} {g : Bool} [ht : TySl P t e sz by_] (hlen : len = parts.length) (hv : vs.length = parts.length)
    (hi : parts.map (·.1) = List.range len) (he : vsD vs = some (els, g)) (hs : lenO sz els = true) (h24 : len * sz ≤ 16777216) :
    AWN P ⟨d, .buildSlice t len parts.toArray, ty, ps, af, gd⟩ ((parts.map (·.2)).zip (vs.map T.v)) [] (.v (.c (.w l len))) [(l, .row e sz els g true)] :=
  awn_new fun cx E a w ok hn _ hl => by
    subst hlen
    have hsz := lenO_ok hs
    obtain ⟨ii, zz, i1, i2, i3, i4, i5⟩ := ht.i
    obtain ⟨m1, m2⟩ := vsD_ok ok he
    have hval : ∀ (i : Nat) (v : V), vs[i]? = some v → ∃ p, parts[i]? = some p ∧ cvV E w v (a.eval p.2) := by
      intro i v hi
      have hlt : i < vs.length := (List.getElem?_eq_some_iff.1 hi).1
      have hp : i < parts.length := by omega
      refine ⟨parts[i], List.getElem?_eq_getElem hp, hn parts[i].2 (.v v) ?_⟩
      refine List.mem_of_getElem? (i := i) ?_
      rw [List.getElem?_zip_eq_some]
      simp [hi, hp]
    have hcell : ∀ p ∈ parts, (a.eval p.2).cells.size = sz := by
      intro p hp
      obtain ⟨i, hi⟩ := List.getElem?_of_mem hp
      have hlt : i < parts.length := (List.getElem?_eq_some_iff.1 hi).1
      obtain ⟨v, hv'⟩ : ∃ v, vs[i]? = some v := ⟨_, List.getElem?_eq_getElem (by omega)⟩
      obtain ⟨e', he'⟩ : ∃ e', els[i]? = some e' := ⟨_, List.getElem?_eq_getElem (by omega)⟩
      obtain ⟨v2, g', n1, n2, n3⟩ := m2 i e' he'
      rw [hv'] at n1; cases n1
      obtain ⟨p', q1, q2⟩ := hval i v hv'
      rw [hi] at q1; cases q1
      rw [(vD_ok ok n2 q2).1]; exact hsz e' (List.mem_of_getElem? he')
    have hparts : (parts.map fun p => (p.1, a.eval p.2)) = (((parts.map fun p => a.eval p.2).zipIdx 0).map fun x => (x.2, x.1)) := by
      apply List.ext_getElem?
      intro i
      simp only [List.getElem?_map, List.getElem?_zipIdx]
      cases hp : parts[i]? with
      | none => simp
      | some p =>
        have : (parts.map (·.1))[i]? = some p.1 := by simp [hp]
        rw [hi] at this
        have hpi : p.1 = i := by
          have hlt : i < parts.length := (List.getElem?_eq_some_iff.1 hp).1
          simp [hlt] at this; omega
        simp [hpi]
    obtain ⟨r, f1, f2, f3⟩ := Go.Great.fill_dense (s := sz) ht.p (parts.map fun p => a.eval p.2) 0 ((Array.range (parts.length * sz)).map ((if parts.length * sz = 0 then #[] else zz.cells)[· % (if parts.length * sz = 0 then #[] else zz.cells).size]!))
      (by intro v hv; simp at hv; obtain ⟨i, x, hm, rfl⟩ := hv; exact hcell (i, x) hm) (by simp)
    refine ⟨.slice (some ⟨w.heap.size, 0, none⟩) parts.length parts.length, .cells r e, parts.length, ?_, ⟨_, _, new_r _ _ _ _, rfl⟩, ?_⟩
    · have hroom : ¬ parts.length * ii.size > 2 ^ 24 := by rw [i2]; omega
      by_cases h0 : parts.length * sz = 0
      · simp only [execOp, Instr.buildSlice]
        simp [underlying, ht.u, sizeOf_run i1, i2, h0, newRow]
        simp [h0] at f1
        have : parts = [] := by
          have := ht.p
          rcases Nat.mul_eq_zero.1 h0 with h | h
          · exact List.eq_nil_of_length_eq_zero h
          · omega
        subst this
        simp at f1 ⊢
        simp [Instr.fill] at f1 ⊢
        subst f1
        simp
      · simp only [execOp, Instr.buildSlice]
        have hroom' : ¬ 16777216 < parts.length * sz := by omega
        simp only [h0, if_false] at f1
        rw [← hparts] at f1
        simp [underlying, ht.u, sizeOf_run i1, i2, h0, hroom', newRow, zeroValue, typeInfo, i1, i4, f1]
    · refine ⟨_, _, r, new_r _ _ _ _, new_heap _ _, by simp [f2], by rw [m1, hv]; exact Nat.le_refl _, ?_, hsz, ?_, fun _ => new_notF ok _ _, fun h => by cases h⟩
      · have := ht.p
        have : parts.length ≤ parts.length * sz := Nat.le_mul_of_pos_right _ this
        unfold maxLen; omega
      · refine rdLL_of hsz fun i e' hi' => rdL_of fun j xd hj => ?_
        obtain ⟨v, g', n1, n2, n3⟩ := m2 i e' hi'
        obtain ⟨p, q1, q2⟩ := hval i v n1
        obtain ⟨r1, r2, r3⟩ := vD_ok ok n2 q2
        obtain ⟨c, s1, s2⟩ := r3 j xd hj
        have hjs : j < sz := by rw [← hsz e' (List.mem_of_getElem? hi')]; exact (List.getElem?_eq_some_iff.1 hj).1
        have hil : i < parts.length := (List.getElem?_eq_some_iff.1 q1).1
        refine ⟨c, ?_, ?_⟩
        · rw [cell_var (new_heap w _), f3]
          have hlt : 0 + i * sz + j < (0 + (parts.map fun p => a.eval p.2).length) * sz := by
            simp only [List.length_map, Nat.zero_add]
            calc i * sz + j < i * sz + sz := by omega
              _ = (i + 1) * sz := by rw [Nat.add_mul]; omega
              _ ≤ parts.length * sz := Nat.mul_le_mul_right _ hil
          rw [if_pos ⟨by simp, hlt⟩]
          have hdiv : (0 + i * sz + j) / sz = i := by
            rw [Nat.zero_add, Nat.add_comm, Nat.add_mul_div_right _ _ ht.p, Nat.div_eq_of_lt hjs]; omega
          have hmod : (0 + i * sz + j) % sz = j := by
            rw [Nat.zero_add, Nat.add_comm, Nat.add_mul_mod_self_right]; exact Nat.mod_eq_of_lt hjs
          rw [hdiv, hmod]
          simp [q1, s1]
        · have h9 := rdD_H ok s2 n3
          exact rdD_mono (fun b hb => Below.heap_alloc _ _ b (ok.hb hb)) (fun b hb => (ext_new ok hl (.cells r e) parts.length).H hb) _ _ h9
theorem n_make {t : TypeId} {e sz by_ : Nat} {zd : List D} {l : Nat} {g g' : Bool} {k k' : IntKind} {n : Nat} {c : Int} [ht : TySl P t e sz by_] [he : TyE P e zd] (hc : n ≤ c) (hb : (by_ : Int) * c ≤ 281474976710656) (h63 : c ≤ 9223372036854775807) :
    AWN P ⟨d, .makeSlice t x y, ty, ps, af, gd⟩ [(x, .v (.c (.d g (.i k n)))), (y, .v (.c (.d g' (.i k' c))))] [] (.v (.c (.w l n))) [(l, .row e sz (List.replicate n zd) true true)] :=
  awn_new fun cx E a w ok hn _ hl => by
    obtain ⟨ii, zz, i1, i2, i3, i4, i5⟩ := ht.i
    obtain ⟨i', z', j1, j2, j3⟩ := he.h
    rw [i1] at j1; cases j1
    rw [i4] at j2; cases j2
    have h1 := cv_int (hn x _ (.head _))
    have h2 := cv_int (hn y _ (.tail _ (.head _)))
    have hzl := (constDs_ok (w := w) (F := fun _ => True) j3).1
    have hzd : zd.length = sz := by rw [← hzl]; simpa using i5
    have hsz : ∀ x ∈ List.replicate n zd, x.length = sz := fun x hx => by rw [List.eq_of_mem_replicate hx]; exact hzd
    refine ⟨.slice (some ⟨w.heap.size, 0, none⟩) n c.toNat, .cells (madeCells zz.cells (c.toNat * sz)) e, c.toNat, ?_, ⟨_, _, new_r _ _ _ _, rfl⟩, ?_⟩
    · have := run_make (P := P) w t e ii zz ht.u i1 i4 k k' n c (by omega) hc (by rw [i3]; exact hb) h63
      simp [execOp, h1, h2, this, i2]
    · refine ⟨_, _, _, new_r _ _ _ _, new_heap _ _, by simp [size_madeCells], by simp; omega, by unfold maxLen; omega, hsz, ?_, fun _ => new_notF ok _ _, fun h => by cases h⟩
      refine rdLL_of hsz fun i e' hi' => rdL_of fun j xd hj => ?_
      have hin : i < n := by simpa using (List.getElem?_eq_some_iff.1 hi').1
      have he' : e' = zd := List.eq_of_mem_replicate (List.mem_of_getElem? hi')
      subst he'
      obtain ⟨u, u1, u2⟩ := (constDs_ok (w := w.alloc (.cells (madeCells zz.cells (c.toNat * sz)) e)) (F := (E.new l w.heap.size c.toNat).H true) j3).2 j xd hj
      have hjs : j < sz := by rw [← hzd]; exact (List.getElem?_eq_some_iff.1 hj).1
      refine ⟨u, ?_, u2⟩
      rw [cell_var (new_heap w _)]
      have hlt : 0 + i * sz + j < c.toNat * sz := by
        calc 0 + i * sz + j < i * sz + sz := by omega
          _ = (i + 1) * sz := by rw [Nat.add_mul]; omega
          _ ≤ c.toNat * sz := Nat.mul_le_mul_right _ (by omega)
      have hmod : (0 + i * sz + j) % zz.cells.size = j := by
        rw [i5, Nat.zero_add, Nat.add_comm, Nat.add_mul_mod_self_right]; exact Nat.mod_eq_of_lt hjs
      have hzj : zz.cells[j]? = some u := by simpa using u1
      have hzs : j < zz.cells.size := by rw [i5]; exact hjs
      simp only [madeCells, Array.getElem?_map, Array.getElem?_range, if_pos hlt, Option.map_some, hmod]
      rw [getElem!_pos zz.cells j hzs]
      rw [Array.getElem?_eq_getElem hzs] at hzj
      simpa using hzj
end
end Go.AM
