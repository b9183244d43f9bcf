/-
  The abstract machine, part G: stores, append, parts of slices, rows that nobody writes any more.
-/
import Derived.Test.YtlpclccdbmoemaaGreatAmF
set_option linter.unusedVariables false
namespace Go.AM
open Go.RowKit

class TyN (P : Program) (t : TypeId) (n : outParam Nat) : Prop where
  n : ∃ i, P.info? t = some i ∧ i.size = n

theorem setRow_other (w : World) (b k : Nat) (cs : Array Value) (h : k ≠ b) : (w.setRow b cs).heap[k]? = w.heap[k]? := by
  simp only [World.setRow, Array.getElem?_modify]
  rw [if_neg (Ne.symm h)]
theorem setRow_same {w : World} {b : Nat} {arr : Array Value} {t : TypeId} (cs : Array Value) (h : w.heap[b]? = some (.cells arr t (0, 0))) : (w.setRow b cs).heap[b]? = some (.cells cs t (0, 0)) :=
  setRow_heap w b arr cs t (0, 0) h
section
variable {P : Program} {N : Nat} {d : Option Tmp} {ty : TypeId} {ps : String} {af : Array Edge} {gd : Option (Nat × Bool)} {x y z : Operand} {st : St}

theorem keeps_setRow {cx : Cx} {E : Env} {w : World} {o b c : Nat} {cs : Array Value} (ok : EnvOK cx E w) (hr : E.r o = some (b, c)) (hF : ¬ E.F b) : Keeps E w E (w.setRow b cs) :=
  ⟨fun _ _ h => h, fun _ _ h => h, fun g k hk => setRow_other w b k cs (fun e => by
    subst e
    cases g
    · exact hF hk
    · exact hF (ok.gf _ hk)), fun l k hk => ⟨hk, setRow_other w b k cs (fun e => by subst e; exact (ok.sf.tb l k hk).2.2.1 o c hr)⟩,
    fun k hk => ⟨hk, .of_eq (setRow_other w b k cs (fun e => by subst e; exact (ok.sf.zb k hk).2.2.1 o c hr))⟩, rfl⟩
theorem Soft.setRow {cx : Cx} {E : Env} {w : World} {o b c : Nat} {cs : Array Value} (s : Soft cx E w) (hr : E.r o = some (b, c)) : Soft cx E (w.setRow b cs) := by
  have hsz : (w.setRow b cs).heap.size = w.heap.size := by simp
  refine ⟨fun l k h => ?_, s.tt, fun k h => ?_, fun k h => ?_, s.ze⟩
  · obtain ⟨h1, h2, h3, h4⟩ := s.tb l k h
    exact ⟨by rw [hsz]; exact h1, h2, h3, h4.of_eq (setRow_other w b k cs (fun e => by subst e; exact h3 o c hr))⟩
  · obtain ⟨h1, h2, h3, h4⟩ := s.zc k h
    exact ⟨by rw [hsz]; exact h1, h2, h3, h4.of_eq (setRow_other w b k cs (fun e => by subst e; exact h3 o c hr))⟩
  · obtain ⟨h1, h2, h3, h4⟩ := s.zc k h
    exact (s.zs k h).trans (.of_eq (setRow_other w b k cs (fun e => by subst e; exact h3 o c hr)))
theorem rel_setRow {cx : Cx} {E : Env} {a : Act} {w : World} {o b c : Nat} {ob' : Ob} {cs : Array Value} (hR : Rel N cx E st a w) (hr : E.r o = some (b, c)) (hF : ¬ E.F b)
    (h' : relOb E (w.setRow b cs) o ob') : Rel N cx E ⟨st.sl, (o, ob') :: st.ob, st.nx⟩ a (w.setRow b cs) := by
  have hk := keeps_setRow (cs := cs) (w := w) hR.ok hr hF
  have hsz : (w.setRow b cs).heap.size = w.heap.size := by simp
  refine ⟨⟨fun k hk => by rw [hsz]; exact hR.ok.fb k hk, hR.ok.gf, hR.ok.gn, fun o b c h => by rw [hsz]; exact hR.ok.rb o b c h, hR.ok.inj, hR.ok.os, hR.ok.tape, hR.ok.output, by rw [hsz]; exact hR.ok.size, fun k hk hW => ?_, hR.ok.pin, hR.ok.ff, fun k hg hk' => (hR.ok.gc k hg hk').of_eq (setRow_other w b k cs (fun e => hF (by subst e; exact hg))), hR.ok.sf.setRow hr⟩, hR.dom, fun l ob hl => ?_, fun k => cvT_keeps hk (hR.sl k), hR.dfr, hR.size, hR.td⟩
  · rw [setRow_other _ _ _ _ (fun e => by
      subst e
      rcases (hR.ok.rb o k c hr).2 with h | h
      · omega
      · exact hW h.1)]
    exact hR.ok.block k hk hW
  · by_cases ho : o = l
    · subst ho; rw [go_same] at hl; cases hl; exact h'
    · rw [go_other _ _ ho] at hl
      exact relOb_keeps hk (fun b' c' h => setRow_other _ _ _ _ (fun e => ho (by subst e; exact hR.ok.inj _ _ _ _ _ hr h))) (fun _ _ _ h => h) (hR.obs l ob hl)
theorem storeAt_run {t : TypeId} {n b k : Nat} {vt : TypeId} {arr : Array Value} {u : Value} {w : World} [ht : TyN P t n] (hu : u.cells.size = n) (h1 : ∀ c ∈ u.cells.toList, c.oneCell' = true) (hh : w.heap[b]? = some (.cells arr vt (0, 0))) (hk : k + n ≤ arr.size) :
    (Instr.storeAt t (.pointer (some ⟨b, k, none⟩)) u).run P w = .ok () (w.setRow b (arr.toList.take k ++ u.cells.toList ++ arr.toList.drop (k + n)).toArray) := by
  obtain ⟨i, hi, hn⟩ := ht.n
  have := run_storeCells_at (P := P) b k vt u.cells.toList 0 arr w hh (by simp [hu]; exact hk) h1
  simp only [Nat.add_zero, Array.length_toList, hu] at this
  simp [Instr.storeAt, Instr.sureAddr, storeVar, sizeOf_run hi, hn, hu, this]
theorem CV_one {E : Env} {w : World} {v : V} {ns : List C} {u : Value} (h : vcs v = some ns) (hs : ns.all C.sto = true) (hv : cvV E w v u) : ∀ c ∈ u.cells.toList, c.oneCell' = true := by
  have hc := vcs_ok h hv
  have key : ∀ (ns : List C) (us : List Value), ns.all C.sto = true → CV E w ns us → ∀ c ∈ us, c.oneCell' = true := by
    intro ns
    induction ns with
    | nil => intro us _ hc; cases us with
      | nil => simp
      | cons _ _ => exact hc.elim
    | cons n ns ih =>
      intro us hs hc
      cases us with
      | nil => exact hc.elim
      | cons u us =>
        simp only [List.all_cons, Bool.and_eq_true] at hs
        intro c hm
        rcases List.mem_cons.1 hm with rfl | hm
        · exact (sto_ok hs.1 hc.1).1
        · exact ih us hs.2 hc.2 c hm
  exact key ns _ hs hc
theorem getElem?_splice {us vs : List Value} {k n : Nat} (hn : us.length = n) (hk : k + n ≤ vs.length) (i : Nat) : (vs.take k ++ us ++ vs.drop (k + n))[i]? = if k ≤ i ∧ i < k + us.length then us[i - k]? else vs[i]? := by
  subst hn
  have hk' : (vs.take k).length = k := by simp; omega
  by_cases hi : i < k
  · rw [if_neg (by omega), List.append_assoc, List.getElem?_append_left (by omega), List.getElem?_take, if_pos hi]
  · rw [List.append_assoc, List.getElem?_append_right (by omega), hk']
    by_cases hj : i < k + us.length
    · rw [if_pos ⟨by omega, hj⟩, List.getElem?_append_left (by omega)]
    · rw [if_neg (by omega), List.getElem?_append_right (by omega), List.getElem?_drop]
      congr 1
      omega
/-- A store into a variable. -/
theorem o_store_p {t : TypeId} {n o k : Nat} {vt : TypeId} {cs cs' ns : List C} {v : V} [ht : TyN P t n] (hx : opT st.sl x = .v (.c (.p o k))) (hy : opT st.sl y = .v v) (ho : go st.ob o = some (.var vt cs)) (hv : vcs v = some ns)
    (hn : Nat.beq ns.length n = true) (hst : ns.all C.sto = true) (hs : splO k ns cs = some cs') : AWO P N ⟨none, .store t x y, ty, ps, af, gd⟩ st ⟨st.sl, (o, .var vt cs') :: st.ob, st.nx⟩ := by
  intro cx E a w hR
  have h1 := hR.op x; rw [hx] at h1
  have h2 := hR.op y; rw [hy] at h2
  obtain ⟨b, c, hr, hu⟩ := h1
  obtain ⟨b', c', arr, hr', hh, hcv, hF⟩ := hR.obs o _ ho
  rw [hr] at hr'; cases hr'
  have hvc := vcs_ok hv h2
  have hl1 := CV_length hvc
  have hl2 := CV_length hcv
  have hnn := Nat.eq_of_beq_eq_true hn
  have hle := (splO_eq hs).2
  have hsz : (a.eval y).cells.size = n := by simp at hl1; omega
  have hrun := storeAt_run (P := P) (t := t) (n := n) (k := k) hsz (CV_one hv hst h2) hh (by simp at hl2; omega)
  unfold Oper.wp
  simp only [execOp, hu, Sem.run_bind, hrun, Result.andThen_ok, Sem.run_pure, Oper.upon_skip, Act.put]
  refine ⟨E, rel_setRow hR hr hF ⟨b, c, _, hr, setRow_same _ hh, ?_, hF⟩⟩
  have hk := keeps_setRow (cs := (arr.toList.take k ++ (a.eval y).cells.toList ++ arr.toList.drop (k + n)).toArray) (w := w) hR.ok hr hF
  refine CV_keeps hk (CV_splice hs hvc hcv ?_ fun i => ?_)
  · simp at hl2 ⊢; omega
  · rw [show (arr.toList.take k ++ (a.eval y).cells.toList ++ arr.toList.drop (k + n)).toArray.toList = arr.toList.take k ++ (a.eval y).cells.toList ++ arr.toList.drop (k + n) from rfl]
    exact getElem?_splice (by simpa using hsz) (by simp at hl2 ⊢; omega) i
/-! rows as one list of cells -/
theorem rdLL_flat {w : World} {F : Nat → Prop} : ∀ {xs : List (List D)} {b k : Nat}, rdLL w F xs b k ↔ rdL w F xs.flatten b k
  | [], b, k => by simp [rdLL, rdL]
  | e :: es, b, k => by
    rw [rdLL, rdLL_flat, List.flatten_cons]
    constructor
    · rintro ⟨h1, h2⟩
      refine rdL_of fun j d hj => ?_
      by_cases hje : j < e.length
      · rw [List.getElem?_append_left hje] at hj; exact rdL_at h1 hj
      · rw [List.getElem?_append_right (by omega)] at hj
        have := rdL_at h2 hj
        rwa [show k + e.length + (j - e.length) = k + j from by omega] at this
    · intro h
      refine ⟨rdL_of fun j d hj => ?_, rdL_of fun j d hj => ?_⟩
      · have hje : j < e.length := (List.getElem?_eq_some_iff.1 hj).1
        exact rdL_at h (by rw [List.getElem?_append_left hje]; exact hj)
      · have := rdL_at (j := e.length + j) h (by rw [List.getElem?_append_right (by omega)]; simpa using hj)
        rwa [show k + (e.length + j) = k + e.length + j from by omega] at this
theorem flat_len {sz : Nat} {xs : List (List D)} (h : ∀ e ∈ xs, e.length = sz) : xs.flatten.length = xs.length * sz := by
  rw [List.length_flatten]; exact sum_len h
/-- A store into an element of a row. -/
theorem o_store_e {t : TypeId} {n o sz i j : Nat} {rt : TypeId} {els : List (List D)} {el el' ns : List D} {g g' : Bool} {v : V} [ht : TyN P t n] (hx : opT st.sl x = .v (.c (.e o sz i j))) (hy : opT st.sl y = .v v)
    (ho : go st.ob o = some (.row rt sz els g true)) (hv : vD v = some (ns, g')) (hn : Nat.beq ns.length n = true) (he : els[i]? = some el) (hs : splO j ns el = some el') :
    AWO P N ⟨none, .store t x y, ty, ps, af, gd⟩ st ⟨st.sl, (o, .row rt sz (els.set i el') (g && g') true) :: st.ob, st.nx⟩ := by
  intro cx E a w hR
  have h1 := hR.op x; rw [hx] at h1
  have h2 := hR.op y; rw [hy] at h2
  obtain ⟨b, c, hr, hu⟩ := h1
  obtain ⟨b', c', arr, hr', hh, ha, hlc, hmx, hes, hrd, hFm, _⟩ := hR.obs o _ ho
  rw [hr] at hr'; cases hr'
  have hF := hFm rfl
  obtain ⟨v1, v2, v3⟩ := vD_ok hR.ok hv h2
  have hnn := Nat.eq_of_beq_eq_true hn
  have hil : i < els.length := (List.getElem?_eq_some_iff.1 he).1
  have hel : el.length = sz := hes el (List.mem_of_getElem? he)
  obtain ⟨hsp, hle⟩ := splO_eq hs
  have hel' : el'.length = sz := by rw [hsp]; simp; omega
  have hbound : i * sz + j + n ≤ arr.size := by
    rw [ha]
    calc i * sz + j + n ≤ i * sz + sz := by omega
      _ = (i + 1) * sz := by rw [Nat.add_mul]; omega
      _ ≤ c * sz := Nat.mul_le_mul_right _ (by omega)
  have hrun := storeAt_run (P := P) (t := t) (n := n) (k := i * sz + j) (by omega) v2 hh hbound
  unfold Oper.wp
  simp only [execOp, hu, Sem.run_bind, hrun, Result.andThen_ok, Sem.run_pure, Oper.upon_skip, Act.put]
  have hk := keeps_setRow (cs := (arr.toList.take (i * sz + j) ++ (a.eval y).cells.toList ++ arr.toList.drop (i * sz + j + n)).toArray) (w := w) hR.ok hr hF
  have hes' : ∀ e ∈ els.set i el', e.length = sz := fun e hm => by
    rcases List.mem_or_eq_of_mem_set hm with h | h
    · exact hes e h
    · rw [h]; exact hel'
  refine ⟨E, rel_setRow hR hr hF ⟨b, c, _, hr, setRow_same _ hh, ?_, by simpa using hlc, hmx, hes', ?_, fun _ => hF, fun h => by cases h⟩⟩
  · rw [← ha]; simp; omega
  · refine rdLL_of hes' fun i' e' hi' => rdL_of fun j' xd hj' => ?_
    rw [cell_var (setRow_same _ hh)]
    have hj'l : j' < sz := by rw [← hes' e' (List.mem_of_getElem? hi')]; exact (List.getElem?_eq_some_iff.1 hj').1
    rw [List.getElem?_toArray, getElem?_splice (by simp; omega) (by simp; omega)]
    have hlen : (a.eval y).cells.toList.length = n := by simp; omega
    rw [hlen, Nat.zero_add]
    rw [List.getElem?_set] at hi'
    by_cases hii : i = i'
    · subst hii
      rw [if_pos rfl, if_pos hil] at hi'
      cases hi'
      rw [splO_get hs] at hj'
      by_cases hin : j ≤ j' ∧ j' < j + ns.length
      · rw [if_pos hin] at hj'
        obtain ⟨u, u1, u2⟩ := v3 _ _ hj'
        refine ⟨u, ?_, ?_⟩
        · rw [if_pos (by omega), show i * sz + j' - (i * sz + j) = j' - j from by omega]; simpa using u1
        · exact rdD_mono (hk.heap _) (hk.H _) _ _ (rdD_H hR.ok u2 (by simp))
      · rw [if_neg hin] at hj'
        obtain ⟨u, u1, u2⟩ := rdL_at (rdLL_at hrd hes he) hj'
        refine ⟨u, ?_, ?_⟩
        · rw [if_neg (by omega)]; rw [cell_var hh] at u1; simpa using u1
        · exact rdD_mono (hk.heap _) (hk.H _) _ _ (rdD_H hR.ok u2 (by simp; intro a _; exact a))
    · rw [if_neg hii] at hi'
      obtain ⟨u, u1, u2⟩ := rdL_at (rdLL_at hrd hes hi') hj'
      refine ⟨u, ?_, ?_⟩
      · have hel'' : j' < sz := hj'l
        rw [if_neg ?_]
        · rw [cell_var hh] at u1; simpa using u1
        · rintro ⟨k1, k2⟩
          rcases Nat.lt_or_gt_of_ne hii with h | h
          · have : (i + 1) * sz ≤ i' * sz := Nat.mul_le_mul_right _ h
            rw [Nat.add_mul] at this; omega
          · have : (i' + 1) * sz ≤ i * sz := Nat.mul_le_mul_right _ h
            rw [Nat.add_mul] at this; omega
      · exact rdD_mono (hk.heap _) (hk.H _) _ _ (rdD_H hR.ok u2 (by simp; intro a _; exact a))
end
end Go.AM
