/-
  The abstract machine, part Y: copy, rows of flat elements, bits.
-/
import Derived.Test.YtlpclccdbmoemaaGreatAmX
set_option linter.unusedVariables false
namespace Go.AM
open Go.RowKit
/-- What copy leaves. -/
def cpL {α : Type} (els ys : List α) : List α := ys.take els.length ++ els.drop ys.length
theorem cpL_map {α β : Type} (f : α → β) (els ys : List α) : cpL (els.map f) (ys.map f) = (cpL els ys).map f := by simp [cpL, List.map_take, List.map_drop]
@[simp] theorem cpL_len {α : Type} (els ys : List α) : (cpL els ys).length = els.length := by simp [cpL]; omega
section
variable {P : Program} {N : Nat} {d : Tmp} {ty : TypeId} {ps : String} {af : Array Edge} {gd : Option (Nat × Bool)} {x y z : Operand} {st : St}
theorem loadCells_run {b k : Nat} {w : World} {us : List Value} {n : Nat} (hn : us.length = n) (h : ∀ (j : Nat) (u : Value), us[j]? = some u → w.cell? ⟨b, k + j, none⟩ = some u) :
    (loadCells ⟨b, k, none⟩ n).run P w = .ok us.toArray w := by
  subst hn
  have := loadCellsFrom_run (P := P) (b := b) (k := k) (w := w) us 0 #[] (fun j u hj => by simpa using h j u hj)
  simpa [loadCells] using this
theorem o_copy_w {t : TypeId} {e sz by_ o n : Nat} {els ys : List (List D)} {g gy : Bool} {c : C} [ht : TySl P t e sz by_] (hd : d < N)
    (hx : opT st.sl x = .v (.c (.w o n))) (hy : opT st.sl y = .v (.c c)) (ho : go st.ob o = some (.row e sz els g true)) (hs : Src st.ob c ys gy)
    (hn : els.length = n) (hsz : ∀ e ∈ ys, e.length = sz) :
    AWO P N ⟨some d, .call ⟨.builtin .copy, #[x, y], #[t, t]⟩, ty, ps, af, gd⟩ st ⟨(d, .any) :: st.sl, (o, .row e sz (cpL els ys) (g && gy) true) :: st.ob, st.nx⟩ := by
  intro cx E a w hR
  have h1 := hR.op x; rw [hx] at h1
  have h2 := hR.op y; rw [hy] at h2
  obtain ⟨b, cc, hr, hu⟩ := h1
  obtain ⟨b', c', arr, hr', hh, ha, hlc, hmx, hes, hrd, hFm, _⟩ := hR.obs o _ ho
  rw [hr] at hr'; cases hr'
  have hF := hFm rfl
  obtain ⟨A, k, hv, hyk, hA⟩ := src_ok hR hs h2
  obtain ⟨ii, zz, i1, i2, i3, i4, i5⟩ := ht.i
  obtain ⟨m, hm⟩ : ∃ m, m = Nat.min ys.length n := ⟨_, rfl⟩
  have hm1 : m ≤ ys.length := by rw [hm]; exact Nat.min_le_left _ _
  have hm2 : m ≤ n := by rw [hm]; exact Nat.min_le_right _ _
  have hcp : cpL els ys = ys.take m ++ els.drop m := by
    unfold cpL
    rw [hn]
    rcases Nat.le_total ys.length n with h | h
    · have e : m = ys.length := by rw [hm]; exact Nat.min_eq_left h
      rw [e, List.take_of_length_le h, List.take_length]
    · have e : m = n := by rw [hm]; exact Nat.min_eq_right h
      rw [e, List.drop_of_length_le (by omega), List.drop_of_length_le (by omega)]
  have hsrc : ∃ news : List Value, news.length = m * sz ∧ (∀ u ∈ news, u.oneCell' = true) ∧ (∀ (j : Nat) (xd : D), (ys.take m).flatten[j]? = some xd → ∃ u, news[j]? = some u ∧ rdD w (E.H gy) xd u) ∧
      (Builtin.firstCells sz m (.slice A ys.length k)).run P w = .ok news.toArray w := by
    rcases hA with h0 | ⟨b2, off, rfl, hrd2⟩
    · subst h0
      have hm0 : m = 0 := by simpa using hm1
      refine ⟨[], by simp [hm0], by simp, by simp, ?_⟩
      cases A with
      | none => simp [Builtin.firstCells]
      | some ad => simp [Builtin.firstCells, hm0, loadCells, loadCellsFrom]
    · obtain ⟨us, q1, q2, q3, q4⟩ := rdL_vals (rdLL_flat.1 (rdLL_take m hrd2))
      have ql : us.length = m * sz := by
        rw [q1, flat_len (fun e he => hsz e (List.mem_of_mem_take he)), List.length_take, Nat.min_eq_left hm1]
      refine ⟨us, ql, q3, q4, ?_⟩
      simp only [Builtin.firstCells]
      exact loadCells_run ql (fun j u hj => by have := q2 j u hj; rwa [add_at] at this)
  obtain ⟨news, n1, n2, n3, n4⟩ := hsrc
  have hmul : m * sz ≤ arr.size := by rw [ha]; exact Nat.mul_le_mul_right _ (by omega)
  have hst := run_storeCells_at (P := P) b 0 e news 0 arr w hh (by simp; omega) n2
  have hrun : (Builtin.copy_ #[t, t] ty #[.slice (some ⟨b, 0, none⟩) n cc, .slice A ys.length k]).run P w = .ok (goInt m) (w.setRow b (news ++ arr.toList.drop (m * sz)).toArray) := by
    simp only [Nat.zero_add, n1] at hst
    simp only [Builtin.copy_]
    simp [underlying, ht.u, Builtin.lenOf, sizeOf_run i1, i2]
    rw [← hm, n4]
    simp [hst]
  unfold Oper.wp
  simp only [execOp, resolve, invoke, builtin, Sem.run_bind, Sem.run_pure, Result.andThen_ok, List.map_toArray, List.map_cons, List.map_nil, hu, hv, hrun, Oper.upon_value]
  have hk := keeps_setRow (cs := (news ++ arr.toList.drop (m * sz)).toArray) (w := w) hR.ok hr hF
  have hall : ∀ e' ∈ cpL els ys, e'.length = sz := fun e' he' => by
    rw [hcp] at he'
    rcases List.mem_append.1 he' with h | h
    · exact hsz e' (List.mem_of_mem_take h)
    · exact hes e' (List.mem_of_mem_drop h)
  have hrel := rel_setRow (ob' := .row e sz (cpL els ys) (g && gy) true) (cs := (news ++ arr.toList.drop (m * sz)).toArray) hR hr hF ⟨b, cc, _, hr, setRow_same _ hh, by rw [← ha]; simp [n1]; omega, by rw [cpL_len]; omega, hmx, hall, by
    rw [rdLL_flat]
    refine rdL_of fun j xd hj => ?_
    rw [Nat.zero_add, cell_var (setRow_same _ hh), List.getElem?_toArray]
    rw [hcp, List.flatten_append] at hj
    have hfl : (ys.take m).flatten.length = m * sz := by rw [flat_len (fun e he => hsz e (List.mem_of_mem_take he)), List.length_take, Nat.min_eq_left hm1]
    by_cases hjn : j < m * sz
    · rw [List.getElem?_append_left (by omega)] at hj
      obtain ⟨u, u1, u2⟩ := n3 _ _ hj
      exact ⟨u, by rw [List.getElem?_append_left (by omega)]; exact u1, rdD_mono (hk.heap _) (hk.H _) _ _ (rdD_H hR.ok u2 (by simp))⟩
    · rw [List.getElem?_append_right (by omega), hfl] at hj
      have hjd : els.flatten[j]? = some xd := by
        have e1 : els.flatten = (els.take m).flatten ++ (els.drop m).flatten := by rw [← List.flatten_append, List.take_append_drop]
        have e2 : (els.take m).flatten.length = m * sz := by rw [flat_len (fun e he => hes e (List.mem_of_mem_take he)), List.length_take, Nat.min_eq_left (by omega)]
        rw [e1, List.getElem?_append_right (by omega), e2]; exact hj
      obtain ⟨u, u1, u2⟩ := rdL_at (rdLL_flat.1 hrd) hjd
      rw [Nat.zero_add, cell_var hh] at u1
      refine ⟨u, ?_, rdD_mono (hk.heap _) (hk.H _) _ _ (rdD_H hR.ok u2 (by simp; intro a _; exact a))⟩
      rw [List.getElem?_append_right (by omega), n1, List.getElem?_drop, show m * sz + (j - m * sz) = j from by omega]
      simpa using u1, fun _ => hF, fun h => by cases h⟩
  exact ⟨E, hrel.putAny hd _⟩
theorem cpT {α : Type} {enc : α → List D} {sl : List (Nat × T)} {ob : List (Nat × Ob)} {nx : Nat} {t : TypeId} {e sz by_ o n : Nat} {ys zs : List α} {zd : List (List D)} {g gy gg : Bool} {c : C} [TySl P t e sz by_] (hzd : zs.map enc = zd) (henc : ∀ a, (enc a).length = sz) (hn : ys.length = n) (hs : Src ob c zd gy) (hd : nlt d N = true)
    (hx : opT sl x = .v (.c (.w o n))) (hy : opT sl y = .v (.c c)) (ho : go ob o = some (.row e sz (ys.map enc) g true)) (hg : (g && gy) = gg) :
    AWO P N ⟨some d, .call ⟨.builtin .copy, #[x, y], #[t, t]⟩, ty, ps, af, gd⟩ ⟨sl, ob, nx⟩ ⟨(d, .any) :: sl, (o, .row e sz ((cpL ys zs).map enc) gg true) :: ob, nx⟩ := by
  subst hzd; subst hg
  have := o_copy_w (P := P) (N := N) (st := ⟨sl, ob, nx⟩) (d := d) (ty := ty) (ps := ps) (af := af) (gd := gd) (t := t) (e := e) (sz := sz) (by_ := by_) (blt_lt hd) hx hy ho hs (by simpa using hn) (lenM henc zs)
  rwa [cpL_map] at this
/-- Scalars only. -/
def flatB : List D → Bool
  | [] => true
  | .l _ :: _ => false
  | _ :: xs => flatB xs
theorem flat_rd {w : World} {F F' : Nat → Prop} : ∀ {e : List D} {b k : Nat}, flatB e = true → rdL w F e b k → rdL w F' e b k
  | [], _, _, _, _ => by simp [rdL]
  | .i k' n :: xs, b, k, h, hr => by
    rw [rdL] at hr ⊢
    exact ⟨by obtain ⟨u, h1, h2⟩ := hr.1; exact ⟨u, h1, by simpa [rdD] using h2⟩, flat_rd (by simpa [flatB] using h) hr.2⟩
  | .b n :: xs, b, k, h, hr => by
    rw [rdL] at hr ⊢
    exact ⟨by obtain ⟨u, h1, h2⟩ := hr.1; exact ⟨u, h1, by simpa [rdD] using h2⟩, flat_rd (by simpa [flatB] using h) hr.2⟩
  | .str n :: xs, b, k, h, hr => by
    rw [rdL] at hr ⊢
    exact ⟨by obtain ⟨u, h1, h2⟩ := hr.1; exact ⟨u, h1, by simpa [rdD] using h2⟩, flat_rd (by simpa [flatB] using h) hr.2⟩
  | .k _ _ _ :: xs, b, k, h, hr => by
    rw [rdL] at hr ⊢
    exact ⟨by obtain ⟨u, h1, h2⟩ := hr.1; exact ⟨u, h1, by simpa [rdD] using h2⟩, flat_rd (by simpa [flatB] using h) hr.2⟩
  | .l _ :: _, _, _, h, _ => by simp [flatB] at h
theorem flat_rdLL {w : World} {F F' : Nat → Prop} : ∀ {es : List (List D)} {b k : Nat}, (∀ e ∈ es, flatB e = true) → rdLL w F es b k → rdLL w F' es b k
  | [], _, _, _, _ => by simp [rdLL]
  | e :: es, b, k, h, hr => by
    rw [rdLL] at hr ⊢
    exact ⟨flat_rd (h e (by simp)) hr.1, flat_rdLL (fun x hx => h x (by simp [hx])) hr.2⟩
/-- A row of scalars holds nothing old. -/
theorem weak_flat {α : Type} {enc : α → List D} {sl : List (Nat × T)} {ob : List (Nat × Ob)} {nx o t sz : Nat} {ys : List α} {g : Bool} (ho : go ob o = some (.row t sz (ys.map enc) g true)) (hf : ∀ a, flatB (enc a) = true) :
    Weak N ⟨sl, ob, nx⟩ ⟨sl, (o, .row t sz (ys.map enc) true true) :: ob, nx⟩ := by
  intro cx E a w hR
  refine ⟨E, hR.ok, hR.dom, fun l x hl => ?_, hR.sl, hR.dfr, hR.size, hR.td⟩
  by_cases hlo : o = l
  · subst hlo
    rw [go_same] at hl; cases hl
    obtain ⟨b, c, arr, h1, h2, h3, h4, h5, h6, h7, h8, h9⟩ := hR.obs _ _ ho
    exact ⟨b, c, arr, h1, h2, h3, h4, h5, h6, flat_rdLL (fun e he => by obtain ⟨a, _, rfl⟩ := List.mem_map.1 he; exact hf a) h7, h8, fun h => by cases h⟩
  · rw [go_other _ _ hlo] at hl; exact hR.obs l x hl
end
end Go.AM
