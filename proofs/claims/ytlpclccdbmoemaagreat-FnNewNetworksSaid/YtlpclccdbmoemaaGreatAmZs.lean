/-
  The abstract machine, part Zs: rows of pairs: a row stored into a slot; such a row opened, begun, frozen.
-/
import Derived.Test.YtlpclccdbmoemaaGreatAmZr
set_option linter.unusedVariables false
namespace Go.AM
open Go.RowKit
section
variable {P : Program} {N : Nat} {d : Tmp} {tt : TypeId} {ps : String} {af : Array Edge} {gd : Option (Nat × Bool)} {x y : Operand} {sl sl1 sl2 : List (Nat × T)} {ob ob1 : List (Nat × Ob)} {nx : Nat} {AQ : Exit → St → Prop}
/-- A row of numbers goes into a slot. -/
theorem o_stx {t : TypeId} {o i s n : Nat} {ty nt : TypeId} {els : List (Int × List Int)} {hole : Hole} {e : Int × List Int} {ys : List Int} {g : Bool} [ht : TyN P t 1] (hx : opT sl x = .v (.c (.e o 2 i 1))) (hy : opT sl y = .v (.c (.w s n))) (ho : go ob o = some (.cxo o ty nt els hole)) (hs : go ob s = some (.row nt 1 (ys.map eI) g true))
    (hn : ys.length = n) (he : els[i]? = some e) (hh : hole = none ∨ ∃ A n k, hole = some (i, A, n, k)) (hrv : rsv s = false) (hso : Nat.beq s o = false) (hol : nlt o nx = true) (h1 : killS s sl = some sl1) (h2 : dropS s sl1 = some sl2) (h3 : delO s (delO o ob) = ob1) (h4 : okO s s ob1 = true) :
    AWO P N ⟨none, .store t x y, tt, ps, af, gd⟩ ⟨sl, ob, nx⟩ ⟨sl2, (o, .cxo o ty nt (els.set i (e.1, ys)) none) :: ob1, nx⟩ := by
  intro cx E a w hR
  have hx1 := hR.op x; rw [hx] at hx1
  have hy1 := hR.op y; rw [hy] at hy1
  have ok := hR.ok
  obtain ⟨b, c, hr, hu⟩ := hx1
  obtain ⟨hnn, b', c', hd, hr', hS, hF⟩ := cx_open he (hR.obs o _ ho)
  rw [hr] at hr'; cases hr'
  obtain ⟨bs, cs, hrs, hv⟩ := hy1
  obtain ⟨bs', cs', arrs, hrs', hhs, has, hls, hcs, _, hrds, hFs, _⟩ := hR.obs s _ hs
  rw [hrs] at hrs'; cases hrs'
  have hFs := hFs rfl
  have hso : s ≠ o := beqF hso
  have hbb : bs ≠ b := fun e => by subst e; exact hso (ok.inj _ _ _ _ _ hrs hr)
  have hil : i < els.length := (List.getElem?_eq_some_iff.1 he).1
  have hrow := RowI.of hhs has hls hcs hrds
  obtain ⟨arr, hh0, ha0⟩ := hS.blk
  have hvc : (a.eval y).cells = #[a.eval y] := by rw [hv]; rfl
  have hbound : i * 2 + 1 + 1 ≤ arr.size := by have := hS.len; omega
  have hrun := storeAt_run (P := P) (t := t) (n := 1) (k := i * 2 + 1) (u := a.eval y) (w := w) (b := b) (by rw [hvc]; rfl) (by rw [hvc]; simp; rw [hv]; rfl) hh0 hbound
  unfold Oper.wp
  simp only [execOp, hu, Sem.run_bind, hrun, Result.andThen_ok, Sem.run_pure, Oper.upon_skip, Act.put]
  obtain ⟨arr', harr'⟩ : ∃ arr', arr' = (arr.toList.take (i * 2 + 1) ++ (a.eval y).cells.toList ++ arr.toList.drop (i * 2 + 1 + 1)).toArray := ⟨_, rfl⟩
  rw [← harr']
  have hsz' : arr'.size = arr.size := by rw [harr', hvc]; simp; omega
  have hget : ∀ j, arr'[j]? = if j = i * 2 + 1 then some (a.eval y) else arr[j]? := by
    intro j
    rw [harr', List.getElem?_toArray, getElem?_splice (by rw [hvc]; rfl) (by simpa using hbound), hvc]
    by_cases hj : j = i * 2 + 1
    · subst hj; simp
    · rw [if_neg (by simp; omega), if_neg hj]; simp
  have hw' := setRow_same arr' hh0
  have hcell : ∀ j, j ≠ i * 2 + 1 → (w.setRow b arr').cell? ⟨b, j, none⟩ = w.cell? ⟨b, j, none⟩ := fun j hj => by rw [cell_var hw', cell_var hh0, hget, if_neg hj]
  have ok1 : EnvOK cx E (w.setRow b arr') := envOK_setRow ok hr hF
  have hk := keeps_setRow (cs := arr') (w := w) ok hr hF
  have hTb : ∀ l k, E.T l k → k ≠ b := fun l k h e => by subst e; exact (ok.sf.tb l k h).2.2.1 o c hr
  have hTs : ∀ l, ¬ E.T l bs := fun l h => (ok.sf.tb l bs h).2.2.1 s cs hrs
  have hsb := ok1.rb s bs cs hrs
  have hnew : cx.w0.heap.size ≤ bs := hsb.2.resolve_right (fun h => by rw [hrv] at h; cases h.2)
  obtain ⟨E', hE'⟩ : ∃ E' : Env, E' = { E with r := fun l => if l = s then none else E.r l, T := fun l k => E.T l k ∨ (l = o ∧ k = bs) } := ⟨_, rfl⟩
  have e_r : ∀ l p, E'.r l = some p ↔ l ≠ s ∧ E.r l = some p := fun l p => by
    subst hE'
    show (if l = s then none else E.r l) = some p ↔ _
    split
    · rename_i h; simp [h]
    · rename_i h; simp [h]
  have e_T : ∀ l k, E'.T l k ↔ E.T l k ∨ (l = o ∧ k = bs) := fun l k => by subst hE'; exact Iff.rfl
  have e_F : E'.F = E.F := by subst hE'; rfl
  have e_G : E'.G = E.G := by subst hE'; rfl
  have e_Z : E'.Z = E.Z := by subst hE'; rfl
  have e_n : E'.n = E.n := by subst hE'; rfl
  have e_H : ∀ g, E'.H g = E.H g := fun g => by cases g; exact e_F; exact e_G
  have ok' : EnvOK cx E' (w.setRow b arr') := by
    refine ⟨by rw [e_F]; exact ok1.fb, by rw [e_F, e_G]; exact ok1.gf, by rw [e_G]; exact ok1.gn, fun l b c h => ok1.rb l b c ((e_r _ _).1 h).2, fun l l' b c c' h h' => ok1.inj l l' b c c' ((e_r _ _).1 h).2 ((e_r _ _).1 h').2, ok1.os, ok1.tape, ok1.output, ok1.size, ok1.block, fun l p hp h => ok1.pin l p hp ((e_r _ _).1 h).2, by rw [e_F]; exact ok1.ff, by rw [e_F]; exact ok1.gc, ⟨fun l k h => ?_, fun l l' k h h' => ?_, fun k h => ?_, ok1.sf.zs, by rw [e_Z]; exact ok1.sf.ze⟩⟩
    · rcases (e_T l k).1 h with h | ⟨rfl, rfl⟩
      · obtain ⟨h1, h2, h3, h4⟩ := ok1.sf.tb l k h
        exact ⟨h1, by rw [e_F]; exact h2, fun o' c' h' => h3 o' c' ((e_r _ _).1 h').2, h4⟩
      · refine ⟨⟨hsb.1, hnew⟩, by rw [e_F]; exact hFs, fun o' c' h' => ?_, ⟨arrs, nt, by rw [setRow_other _ _ _ _ hbb]; exact hhs⟩⟩
        obtain ⟨h5, h6⟩ := (e_r _ _).1 h'
        exact h5 (ok.inj _ _ _ _ _ h6 hrs)
    · rcases (e_T l k).1 h with h | ⟨rfl, rfl⟩ <;> rcases (e_T l' k).1 h' with h' | ⟨rfl, h'⟩
      · exact ok1.sf.tt l l' k h h'
      · subst h'; exact absurd h (hTs l)
      · exact absurd h' (hTs l')
      · rfl
    · obtain ⟨h1, h2, h3, h4⟩ := ok1.sf.zc k h
      exact ⟨h1, by rw [e_F]; exact h2, fun o' c' h' => h3 o' c' ((e_r _ _).1 h').2, h4⟩
  have kg : KG s s E w E' (w.setRow b arr') := ⟨fun l p hl h => (e_r _ _).2 ⟨hl, h⟩, fun g k h => by rw [e_H]; exact h, fun g k h => hk.heap g k h, fun l k _ h => ⟨(e_T l k).2 (.inl h), (hk.T l k h).2⟩, fun k h => ⟨by rw [e_Z]; exact h, (hk.Z k h).2⟩, fun l _ => by rw [e_n]⟩
  refine ⟨E', rel_kg hR ok' kg h1 h2 h3 h4 ?_ (fun l b' c' hl hlo hrl => setRow_other _ _ _ _ (fun e => by subst e; exact hlo (ok.inj _ _ _ _ _ hrl hr))) (fun l b' c' _ _ _ hf => by rw [e_F]; exact hf) (fun l p h => hR.dom l p ((e_r _ _).1 h).2) (fun l k h => ?_)⟩
  · refine .inr ⟨by rw [e_n]; exact hnn, b, c, (e_r _ _).2 ⟨Ne.symm hso, hr⟩, ⟨fun j => if j = i then some (bs, cs) else hd j, ⟨arr', hw', by omega⟩, by simpa using hS.len, hS.cap, fun j ej hj => ?_, fun j ej hj _ => ?_, fun j ej hj _ => ?_, fun j j' k c1 c2 hj hj' _ _ q1 q2 => ?_, fun _ _ _ _ h => by cases h⟩, by rw [e_F]; exact hF⟩
    · rw [hcell _ (by omega)]
      rw [List.getElem?_set] at hj
      by_cases e1 : i = j
      · subst e1
        rw [if_pos rfl, if_pos hil] at hj; cases hj
        exact hS.a i e he
      · rw [if_neg e1] at hj; exact hS.a j ej hj
    · rw [List.getElem?_set] at hj
      by_cases e1 : i = j
      · subst e1
        rw [if_pos rfl, if_pos hil] at hj; cases hj
        rw [cell_var hw', hget, if_pos rfl, if_pos rfl, hv, hn]; rfl
      · rw [if_neg e1] at hj
        rw [hcell _ (by omega), if_neg (Ne.symm e1)]
        refine hS.s j ej hj ?_
        rcases hh with rfl | ⟨A, n', k', rfl⟩
        · rfl
        · exact beq_ne e1
    · rw [List.getElem?_set] at hj
      by_cases e1 : i = j
      · subst e1
        rw [if_pos rfl, if_pos hil] at hj; cases hj
        rw [if_pos rfl]
        exact ⟨(e_T o bs).2 (.inr ⟨rfl, rfl⟩), hrow.keep (setRow_other _ _ _ _ hbb)⟩
      · rw [if_neg e1] at hj
        rw [if_neg (Ne.symm e1)]
        refine (hS.ne j ej hj ?_).keep (fun k c' _ hk' => (e_T o k).2 (.inl hk')) (fun k c' _ hk' => setRow_other _ _ _ _ (hTb o k hk'))
        rcases hh with rfl | ⟨A, n', k', rfl⟩
        · rfl
        · exact beq_ne e1
    · have hole_ne : ∀ j, j ≠ i → holeAt hole j = false := fun j hj => by
        rcases hh with rfl | ⟨A, n', k', rfl⟩
        · rfl
        · exact beq_ne (Ne.symm hj)
      have hR' : ∀ j, j ≠ i → j < els.length → ∀ k c', hd j = some (k, c') → E.T o k := fun j hj hjl k c' hdj => by
        have := hS.ne j _ (List.getElem?_eq_getElem hjl) (hole_ne j hj)
        rw [hdj] at this
        exact this.1
      have hj : j < els.length := by simpa using hj
      have hj' : j' < els.length := by simpa using hj'
      by_cases e1 : j = i <;> by_cases e2 : j' = i
      · rw [e1, e2]
      · rw [if_pos e1] at q1; rw [if_neg e2] at q2; cases q1
        exact absurd (hR' j' e2 hj' _ _ q2) (hTs o)
      · rw [if_neg e1] at q1; rw [if_pos e2] at q2; cases q2
        exact absurd (hR' j e1 hj _ _ q1) (hTs o)
      · rw [if_neg e1] at q1; rw [if_neg e2] at q2
        exact hS.inj j j' k c1 c2 hj hj' (hole_ne j e1) (hole_ne j' e2) q1 q2
  · rcases (e_T l k).1 h with h | ⟨rfl, _⟩
    · exact hR.td l k h
    · exact blt_lt hol
end
end Go.AM
