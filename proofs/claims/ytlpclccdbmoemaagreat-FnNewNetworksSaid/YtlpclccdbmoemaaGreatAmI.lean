/-
  The abstract machine, part I: functions and their calls.
-/
import Derived.Test.YtlpclccdbmoemaaGreatAmH
set_option linter.unusedVariables false
namespace Go.AM
open Go.RowKit

/-- An argument: data. -/
inductive AV where
  | c (x : D)
  | agg (xs : List D)
/-- One cell of a result: data, a new row that is the caller's, nil. -/
inductive RC where
  | d (x : D)
  | own (ty sz : Nat) (els : List (List D)) (n : Nat)
  | nil
inductive RV where
  | c (x : RC)
  | agg (xs : List RC)
abbrev aI (n : Int) : AV := .c (.i .i64 n)
abbrev aB (b : Bool) : AV := .c (.b b)
abbrev aS (s : ByteArray) : AV := .c (.str s)
abbrev aL (xs : List (List D)) : AV := .c (.l xs)
abbrev rI (n : Int) : RV := .c (.d (.i .i64 n))
abbrev rB (b : Bool) : RV := .c (.d (.b b))
abbrev rS (s : ByteArray) : RV := .c (.d (.str s))

def DV (w : World) (F : Nat → Prop) : List D → List Value → Prop
  | [], [] => True
  | x :: xs, u :: us => rdD w F x u ∧ DV w F xs us
  | _, _ => False
def avR (w : World) (F : Nat → Prop) : AV → Value → Prop
  | .c x, u => rdD w F x u
  | .agg xs, u => ∃ arr, u = .agg arr ∧ DV w F xs arr.toList
def AR (w : World) (F : Nat → Prop) : List AV → List Value → Prop
  | [], [] => True
  | x :: xs, u :: us => avR w F x u ∧ AR w F xs us
  | _, _ => False
def rcR (w : World) (G : Nat → Prop) (base : Nat) : RC → Value → List (Nat × Nat) → Prop
  | .d x, u, bs => bs = [] ∧ rdD w G x u
  | .own ty sz els n, u, bs => ∃ b c arr, bs = [(b, c)] ∧ u = .slice (some ⟨b, 0, none⟩) n c ∧ w.heap[b]? = some (.cells arr ty (0, 0)) ∧ arr.size = c * sz ∧ els.length ≤ c ∧ c ≤ maxLen ∧
      (∀ e ∈ els, e.length = sz) ∧ rdLL w G els b 0 ∧ ¬ G b ∧ base ≤ b
  | .nil, u, bs => bs = [] ∧ u = .slice none 0 0
def rcsR (w : World) (G : Nat → Prop) (base : Nat) : List RC → List Value → List (Nat × Nat) → Prop
  | [], [], bs => bs = []
  | r :: rs, u :: us, bs => ∃ b1 b2, bs = b1 ++ b2 ∧ rcR w G base r u b1 ∧ rcsR w G base rs us b2
  | _, _, _ => False
def rvR (w : World) (G : Nat → Prop) (base : Nat) : RV → Value → List (Nat × Nat) → Prop
  | .c r, u, bs => rcR w G base r u bs
  | .agg rs, u, bs => ∃ arr, u = .agg arr ∧ rcsR w G base rs arr.toList bs
def rvsR (w : World) (G : Nat → Prop) (base : Nat) : List RV → List Value → List (Nat × Nat) → Prop
  | [], [], bs => bs = []
  | r :: rs, u :: us, bs => ∃ b1 b2, bs = b1 ++ b2 ∧ rvR w G base r u b1 ∧ rvsR w G base rs us b2
  | _, _, _ => False
def resR (w : World) (G : Nat → Prop) (base : Nat) : List RV → Value → List (Nat × Nat) → Prop
  | [r], v, bs => rvR w G base r v bs
  | rs, v, bs => ∃ arr, v = .tuple arr ∧ rvsR w G base rs arr.toList bs
/-- What was there is as it was. -/
structure Past (w w' : World) (W : Nat → Prop) : Prop where
  os : w'.os = w.os
  tape : w'.tape = w.tape
  output : w'.output = w.output
  size : w.heap.size ≤ w'.heap.size
  block : ∀ b, b < w.heap.size → ¬ W b → w'.heap[b]? = w.heap[b]?

/-- The contract of a function: called with arguments that read as 'args' it returns 'res'; what was there is as it was. -/
structure Fn (P : Program) (f : FuncId) (args : List AV) (res : List RV) : Prop where
  enters : ∀ (vs : Array Value) (w : World), (callFunc f vs).run P w = .ok (.enter f vs) w
  calls : ∀ (F : Nat → Prop) (w : World) (vals : Array Value), (∀ b, F b → b < w.heap.size) → TabsIn w → AR w F args vals.toList →
    Calls P f vals w fun e w' => ∃ v G bs, e = .returned v ∧ Past w w' (fun _ => False) ∧ (∀ b, G b → w.heap.size ≤ b ∧ b < w'.heap.size ∧ Plain w' b) ∧ resR w' G w.heap.size res v bs ∧ (bs.map (·.1)).Nodup

/-! out of a function -/
inductive ResV (P : Program) (st : St) : ResultVar → V → Prop
  | tmp {k : Tmp} {v : V} (h : gt st.sl k = .v v) : ResV P st (.tmp k) v
  | cell {p : Tmp} {t n o : Nat} {vt : TypeId} {cs : List C} [ht : TyAg P t n] (h : gt st.sl p = .v (.c (.p o 0))) (ho : go st.ob o = some (.var vt cs)) (hn : Nat.beq cs.length n = true) : ResV P st (.cell p t) (.agg cs)
  | cell1 {p : Tmp} {t o : Nat} {vt : TypeId} {c : C} [ht : TySc P t] (h : gt st.sl p = .v (.c (.p o 0))) (ho : go st.ob o = some (.var vt [c])) : ResV P st (.cell p t) (.c c)
inductive ResVs (P : Program) (st : St) : List ResultVar → List V → Prop
  | nil : ResVs P st [] []
  | cons {r : ResultVar} {rs : List ResultVar} {v : V} {vs : List V} (h : ResV P st r v) (h' : ResVs P st rs vs) : ResVs P st (r :: rs) (v :: vs)
def expC (ob : List (Nat × Ob)) : C → Option (RC × List Nat)
  | .d _ (.i k n) => some (.d (.i k n), [])
  | .d _ (.b x) => some (.d (.b x), [])
  | .d _ (.str s) => some (.d (.str s), [])
  | .d true (.l xs) => some (.d (.l xs), [])
  | .w o n => match go ob o, rsv o with
    | some (.row ty sz els true true), false => some (.own ty sz els n, [o])
    | _, _ => none
  | .nil => some (.nil, [])
  | _ => none
def expCs (ob : List (Nat × Ob)) : List C → Option (List RC × List Nat)
  | [] => some ([], [])
  | c :: cs => match expC ob c, expCs ob cs with
    | some (r, l), some (rs, ls) => some (r :: rs, l ++ ls)
    | _, _ => none
def expV (ob : List (Nat × Ob)) : V → Option (RV × List Nat)
  | .c c => match expC ob c with
    | some (r, l) => some (.c r, l)
    | none => none
  | .agg cs => match expCs ob cs with
    | some (r, l) => some (.agg r, l)
    | none => none
def expVs (ob : List (Nat × Ob)) : List V → Option (List RV × List Nat)
  | [] => some ([], [])
  | c :: cs => match expV ob c, expVs ob cs with
    | some (r, l), some (rs, ls) => some (r :: rs, l ++ ls)
    | _, _ => none
def nodupO : List Nat → Bool
  | [] => true
  | x :: xs => !(xs.any (Nat.beq x)) && nodupO xs
theorem nodupO_ok : ∀ {l : List Nat}, nodupO l = true → l.Nodup
  | [], _ => List.nodup_nil
  | x :: xs, h => by
    simp only [nodupO, Bool.and_eq_true, Bool.not_eq_true'] at h
    refine List.nodup_cons.2 ⟨fun hm => ?_, nodupO_ok h.2⟩
    have : xs.any (Nat.beq x) = true := List.any_eq_true.2 ⟨x, hm, by simp⟩
    rw [this] at h; exact absurd h.1 (by simp)
def Fin (P : Program) (rs : List ResultVar) (res : List RV) (s : St) : Prop := ∃ vs ls, ResVs P s rs vs ∧ expVs s.ob vs = some (res, ls) ∧ nodupO ls = true

theorem expC_ok {N : Nat} {cx : Cx} {E : Env} {st : St} {a : Act} {w : World} (hR : Rel N cx E st a w) {c : C} {r : RC} {ls : List Nat} {u : Value} (h : expC st.ob c = some (r, ls)) (hc : cvC E w c u) :
    ∃ bs, rcR w E.G cx.w0.heap.size r u bs ∧ bs.length = ls.length ∧ ∀ (i : Nat) (l : Nat), ls[i]? = some l → ∃ p, bs[i]? = some p ∧ E.r l = some p := by
  cases c with
  | d g x =>
    cases x with
    | i k n => simp [expC] at h; obtain ⟨rfl, rfl⟩ := h; exact ⟨[], ⟨rfl, by simp only [cvC, rdD] at hc ⊢; exact hc⟩, rfl, by simp⟩
    | b k => simp [expC] at h; obtain ⟨rfl, rfl⟩ := h; exact ⟨[], ⟨rfl, by simp only [cvC, rdD] at hc ⊢; exact hc⟩, rfl, by simp⟩
    | str k => simp [expC] at h; obtain ⟨rfl, rfl⟩ := h; exact ⟨[], ⟨rfl, by simp only [cvC, rdD] at hc ⊢; exact hc⟩, rfl, by simp⟩
    | l xs =>
      cases g with
      | false => simp [expC] at h
      | true => simp [expC] at h; obtain ⟨rfl, rfl⟩ := h; exact ⟨[], ⟨rfl, hc⟩, rfl, by simp⟩
    | k A n c => simp [expC] at h
  | w o n =>
    simp only [expC] at h
    split at h
    · rename_i ty sz els ho hrv
      simp at h; obtain ⟨rfl, rfl⟩ := h
      obtain ⟨b, c, hr, rfl⟩ := hc
      obtain ⟨b', c', arr, hr', hh, ha, hlc, hmx, hes, hrd, hFm, _⟩ := hR.obs o _ ho
      rw [hr] at hr'; cases hr'
      refine ⟨[(b, c)], ⟨b, c, arr, rfl, rfl, hh, ha, hlc, hmx, hes, hrd, fun hg => hFm rfl (hR.ok.gf b hg), ((hR.ok.rb o b c hr).2).resolve_right (fun h => by rw [hrv] at h; cases h.2)⟩, rfl, fun i l hi => ?_⟩
      cases i with
      | zero => simp at hi; subst hi; exact ⟨(b, c), rfl, hr⟩
      | succ i => simp at hi
    · cases h
  | nil => simp [expC] at h; obtain ⟨rfl, rfl⟩ := h; exact ⟨[], ⟨rfl, hc⟩, rfl, by simp⟩
  | _ => simp [expC] at h
theorem join_ok {E : Env} {b1 b2 : List (Nat × Nat)} {l1 l2 : List Nat} (h1 : b1.length = l1.length) (k1 : ∀ (i : Nat) (l : Nat), l1[i]? = some l → ∃ p, b1[i]? = some p ∧ E.r l = some p)
    (k2 : ∀ (i : Nat) (l : Nat), l2[i]? = some l → ∃ p, b2[i]? = some p ∧ E.r l = some p) : ∀ (i : Nat) (l : Nat), (l1 ++ l2)[i]? = some l → ∃ p, (b1 ++ b2)[i]? = some p ∧ E.r l = some p := by
  intro i l hi
  by_cases hil : i < l1.length
  · rw [List.getElem?_append_left hil] at hi; rw [List.getElem?_append_left (by omega)]; exact k1 i l hi
  · rw [List.getElem?_append_right (by omega)] at hi; rw [List.getElem?_append_right (by omega), h1]; exact k2 _ l hi
theorem expCs_ok {N : Nat} {cx : Cx} {E : Env} {st : St} {a : Act} {w : World} (hR : Rel N cx E st a w) : ∀ {cs : List C} {rs : List RC} {ls : List Nat} {us : List Value}, expCs st.ob cs = some (rs, ls) → CV E w cs us →
    ∃ bs, rcsR w E.G cx.w0.heap.size rs us bs ∧ bs.length = ls.length ∧ ∀ (i : Nat) (l : Nat), ls[i]? = some l → ∃ p, bs[i]? = some p ∧ E.r l = some p
  | [], rs, ls, us, h, hc => by
    simp [expCs] at h; obtain ⟨rfl, rfl⟩ := h
    cases us with
    | nil => exact ⟨[], rfl, rfl, by simp⟩
    | cons _ _ => exact hc.elim
  | c :: cs, rs, ls, us, h, hc => by
    cases us with
    | nil => exact hc.elim
    | cons u us =>
      simp only [expCs] at h
      split at h
      · rename_i r l rs' ls' h1 h2
        simp at h; obtain ⟨rfl, rfl⟩ := h
        obtain ⟨b1, k1, k2, k3⟩ := expC_ok hR h1 hc.1
        obtain ⟨b2, m1, m2, m3⟩ := expCs_ok hR h2 hc.2
        exact ⟨b1 ++ b2, ⟨b1, b2, rfl, k1, m1⟩, by simp [k2, m2], join_ok k2 k3 m3⟩
      · cases h
theorem expV_ok {N : Nat} {cx : Cx} {E : Env} {st : St} {a : Act} {w : World} (hR : Rel N cx E st a w) {v : V} {r : RV} {ls : List Nat} {u : Value} (h : expV st.ob v = some (r, ls)) (hv : cvV E w v u) :
    ∃ bs, rvR w E.G cx.w0.heap.size r u bs ∧ bs.length = ls.length ∧ ∀ (i : Nat) (l : Nat), ls[i]? = some l → ∃ p, bs[i]? = some p ∧ E.r l = some p := by
  cases v with
  | c c =>
    simp only [expV] at h
    split at h
    · rename_i r' l' h1; simp at h; obtain ⟨rfl, rfl⟩ := h; exact expC_ok hR h1 hv
    · cases h
  | agg cs =>
    simp only [expV] at h
    split at h
    · rename_i r' l' h1; simp at h; obtain ⟨rfl, rfl⟩ := h
      obtain ⟨arr, hu, hc⟩ := hv
      obtain ⟨bs, k1, k2, k3⟩ := expCs_ok hR h1 hc
      exact ⟨bs, ⟨arr, hu, k1⟩, k2, k3⟩
    · cases h
theorem expVs_ok {N : Nat} {cx : Cx} {E : Env} {st : St} {a : Act} {w : World} (hR : Rel N cx E st a w) : ∀ {vs : List V} {rs : List RV} {ls : List Nat} {us : List Value}, expVs st.ob vs = some (rs, ls) → VV E w vs us →
    ∃ bs, rvsR w E.G cx.w0.heap.size rs us bs ∧ bs.length = ls.length ∧ ∀ (i : Nat) (l : Nat), ls[i]? = some l → ∃ p, bs[i]? = some p ∧ E.r l = some p
  | [], rs, ls, us, h, hc => by
    simp [expVs] at h; obtain ⟨rfl, rfl⟩ := h
    cases us with
    | nil => exact ⟨[], rfl, rfl, by simp⟩
    | cons _ _ => exact hc.elim
  | c :: cs, rs, ls, us, h, hc => by
    cases us with
    | nil => exact hc.elim
    | cons u us =>
      simp only [expVs] at h
      split at h
      · rename_i r l rs' ls' h1 h2
        simp at h; obtain ⟨rfl, rfl⟩ := h
        obtain ⟨b1, k1, k2, k3⟩ := expV_ok hR h1 hc.1
        obtain ⟨b2, m1, m2, m3⟩ := expVs_ok hR h2 hc.2
        exact ⟨b1 ++ b2, ⟨b1, b2, rfl, k1, m1⟩, by simp [k2, m2], join_ok k2 k3 m3⟩
      · cases h
def resOne (tmps : Array Value) : ResultVar → Sem Value
  | .tmp t => pure (tmps.getD t undef)
  | .cell p t => do loadVar t (← asAddr (tmps.getD p undef))
theorem ResV_ok {P : Program} {N : Nat} {cx : Cx} {E : Env} {st : St} {a : Act} {w : World} (hR : Rel N cx E st a w) {r : ResultVar} {v : V} (h : ResV P st r v) :
    ∃ u, (resOne a.tmps r).run P w = .ok u w ∧ cvV E w v u := by
  cases h with
  | tmp h => rename_i k; have := hR.sl k; rw [h] at this; exact ⟨_, by simp [resOne], this⟩
  | cell h ho hn =>
    rename_i p t n o vt cs ht
    have h1 := hR.sl p; rw [h] at h1
    obtain ⟨b, c, hr, hu⟩ := h1
    obtain ⟨b', c', arr, hr', hh, hcv, _⟩ := hR.obs o _ ho
    rw [hr] at hr'; cases hr'
    have hl := CV_length hcv
    have hnn := Nat.eq_of_beq_eq_true hn
    have := loadAt_agg (P := P) (t := t) (n := n) (b := b) (k := 0) (us := arr.toList) (w := w) (by rw [hl]; exact hnn) (fun j u hj => by rw [cell_var hh]; simpa using hj)
    refine ⟨.agg arr.toList.toArray, ?_, arr, by simp, hcv⟩
    simp only [Instr.loadAt, Instr.sureAddr] at this
    simpa [resOne, hu, asAddr] using this
  | cell1 h ho =>
    rename_i p t o vt c ht
    have h1 := hR.sl p; rw [h] at h1
    obtain ⟨b, c', hr, hu⟩ := h1
    obtain ⟨b', c'', arr, hr', hh, hcv, _⟩ := hR.obs o _ ho
    rw [hr] at hr'; cases hr'
    obtain ⟨u, hu', hcu⟩ := CV_at (k := 0) hcv rfl
    have := loadAt_one (P := P) (t := t) (b := b) (k := 0) (u := u) (w := w) (by rw [cell_var hh]; simpa using hu')
    refine ⟨u, ?_, hcu⟩
    simp only [Instr.loadAt, Instr.sureAddr] at this
    simpa [resOne, hu, asAddr] using this
theorem ResVs_ok {P : Program} {N : Nat} {cx : Cx} {E : Env} {st : St} {a : Act} {w : World} (hR : Rel N cx E st a w) : ∀ {rs : List ResultVar} {vs : List V}, ResVs P st rs vs →
    ∃ us, (rs.mapM (resOne a.tmps)).run P w = .ok us w ∧ VV E w vs us
  | _, _, .nil => ⟨[], by simp, trivial⟩
  | _, _, .cons (r := r) h h' => by
    obtain ⟨u, k1, k2⟩ := ResV_ok hR h
    obtain ⟨us, m1, m2⟩ := ResVs_ok hR h'
    refine ⟨u :: us, ?_, k2, m2⟩
    rw [List.mapM_cons]
    simp only [Sem.run_bind]
    simp [k1, m1]
theorem fin_ok {P : Program} {N : Nat} {cx : Cx} {E : Env} {st : St} {a : Act} {w : World} (hR : Rel N cx E st a w) {fn : Func} {res : List RV} (h : Fin P fn.results.toList res st) :
    ∃ v bs, (results fn a.tmps).run P w = .ok v w ∧ resR w E.G cx.w0.heap.size res v bs ∧ (bs.map (·.1)).Nodup := by
  obtain ⟨vs, ls, h1, h2, h3⟩ := h
  obtain ⟨us, k1, k2⟩ := ResVs_ok hR h1
  obtain ⟨bs, m1, m2, m3⟩ := expVs_ok hR h2 k2
  have hnd : (bs.map (·.1)).Nodup := by
    have hnl := nodupO_ok h3
    refine List.pairwise_iff_getElem.2 fun i j hi hj hij he => ?_
    simp only [List.length_map] at hi hj
    obtain ⟨p, p1, p2⟩ := m3 i ls[i] (List.getElem?_eq_getElem (by omega))
    obtain ⟨q, q1, q2⟩ := m3 j ls[j] (List.getElem?_eq_getElem (by omega))
    rw [List.getElem?_eq_getElem hi] at p1
    rw [List.getElem?_eq_getElem hj] at q1
    cases p1; cases q1
    simp only [List.getElem_map] at he
    rcases hbi : bs[i] with ⟨b1, c1⟩
    rcases hbj : bs[j] with ⟨b2, c2⟩
    rw [hbi, hbj] at he
    rw [hbi] at p2; rw [hbj] at q2
    have hb : b1 = b2 := he
    subst hb
    exact List.pairwise_iff_getElem.1 hnl i j (by omega) (by omega) hij (hR.ok.inj _ _ _ _ _ p2 q2)
  have hm : (fn.results.mapM (resOne a.tmps)).run P w = .ok us.toArray w := by
    rw [← Array.toArray_toList (xs := fn.results), List.mapM_toArray]
    simp only [Sem.run_map, k1]
    rfl
  have hres : results fn a.tmps = (fn.results.mapM (resOne a.tmps)) >>= fun vs => pure (if h : vs.size = 1 then vs[0] else .tuple vs) := rfl
  have hlen : us.length = vs.length := by
    have key : ∀ (vs : List V) (us : List Value), VV E w vs us → us.length = vs.length := by
      intro vs
      induction vs with
      | nil => intro us h; cases us with
        | nil => rfl
        | cons _ _ => exact h.elim
      | cons v vs ih => intro us h; cases us with
        | nil => exact h.elim
        | cons u us => simp [ih us h.2]
    exact key vs us k2
  have hlen2 : us.length = res.length := by
    have key : ∀ (rs : List RV) (us : List Value) (bs : List (Nat × Nat)), rvsR w E.G cx.w0.heap.size rs us bs → us.length = rs.length := by
      intro rs
      induction rs with
      | nil => intro us bs h; cases us with
        | nil => rfl
        | cons _ _ => exact h.elim
      | cons v vs ih => intro us bs h; cases us with
        | nil => exact h.elim
        | cons u us => obtain ⟨b1, b2, _, _, h⟩ := h; simp [ih us b2 h]
    exact key res us bs m1
  match res, us, m1, hlen2 with
  | [], [], m1, _ => exact ⟨.tuple #[], bs, by rw [hres]; simp [hm], ⟨#[], rfl, m1⟩, hnd⟩
  | [r], [u], m1, _ =>
    obtain ⟨b1, b2, rfl, h4, h5⟩ := m1
    have : b2 = [] := h5
    subst this
    exact ⟨u, b1 ++ [], by rw [hres]; simp [hm], by simpa [resR] using h4, hnd⟩
  | r1 :: r2 :: rs, u1 :: u2 :: us, m1, _ =>
    exact ⟨.tuple (u1 :: u2 :: us).toArray, bs, by rw [hres]; simp [hm], ⟨_, rfl, m1⟩, hnd⟩

/-! into a function -/
def argT : AV → T
  | .c x => .v (.c (ldC false x))
  | .agg xs => .v (.agg (xs.map (ldC false)))
def argSl : Nat → List AV → List (Nat × T)
  | _, [] => []
  | k, a :: as => (k, argT a) :: argSl (k + 1) as
/-- The frame's post, at the end of a body. -/
def Post (N : Nat) (P : Program) (rs : List ResultVar) (res : List RV) : Exit → St → Prop
  | .normal, s | .ret, s => ∃ s', Weak N s s' ∧ Fin P rs res s'
  | _, _ => False
theorem post_ret {N : Nat} {P : Program} {rs : List ResultVar} {res : List RV} {s : St} (h : Fin P rs res s) : Post N P rs res .ret s := ⟨s, fun _ E _ _ h => ⟨E, h⟩, h⟩
theorem DV_CV {E : Env} {w : World} {F : Nat → Prop} (hF : E.F = F) : ∀ {xs : List D} {us : List Value}, DV w F xs us → CV E w (xs.map (ldC false)) us
  | [], [], _ => trivial
  | x :: xs, u :: us, h => ⟨ldC_ok (g := false) (by subst hF; exact h.1), DV_CV hF h.2⟩
  | [], _ :: _, h => h.elim
  | _ :: _, [], h => h.elim
theorem argSl_ok {E : Env} {w : World} {F : Nat → Prop} (hF : E.F = F) : ∀ {as : List AV} {us : List Value} (k0 : Nat), AR w F as us → us.length = as.length ∧ ∀ k, (k0 ≤ k ∧ k < k0 + as.length → ∃ u, us[k - k0]? = some u ∧ cvT E w (gt (argSl k0 as) k) u) ∧ (¬ (k0 ≤ k ∧ k < k0 + as.length) → gt (argSl k0 as) k = .any)
  | [], [], k0, _ => ⟨rfl, fun k => ⟨fun h => by simp at h; omega, fun _ => rfl⟩⟩
  | a :: as, u :: us, k0, h => by
    obtain ⟨h1, h2⟩ := argSl_ok hF (k0 + 1) h.2
    refine ⟨by simp [h1], fun k => ?_⟩
    by_cases hk : k0 = k
    · subst hk
      refine ⟨fun _ => ⟨u, by simp, ?_⟩, fun hn => absurd ⟨Nat.le_refl _, by simp⟩ hn⟩
      rw [argSl, gt_same]
      cases a with
      | c x => exact ldC_ok (g := false) (by subst hF; exact h.1)
      | agg xs => obtain ⟨arr, hu, hd⟩ := h.1; exact ⟨arr, hu, DV_CV hF hd⟩
    · rw [argSl, gt_other _ _ hk]
      refine ⟨fun hr => ?_, fun hr => (h2 k).2 (fun h => hr ⟨by omega, by simp; omega⟩)⟩
      obtain ⟨v, h3, h4⟩ := (h2 k).1 ⟨by omega, by simp at hr; omega⟩
      refine ⟨v, ?_, h4⟩
      rw [show k - k0 = (k - (k0 + 1)) + 1 from by omega]
      simpa using h3
  | [], _ :: _, _, h => h.elim
  | _ :: _, [], _, h => h.elim
theorem fn_of {P : Program} {f : FuncId} {fn : Func} {c : Code} {N : Nat} {args : List AV} {rs : List ResultVar} {res : List RV} (hf : P.funcs[f]? = some fn) (hb : fn.body = some c) (hnm : (fn.name == "runtime.NumGoroutine") = false) (hN : fn.ntmps = N) (hrs : fn.results.toList = rs)
    (ha : Nat.ble args.length N = true) (h : AWC P N c ⟨argSl 0 args, [], 0⟩ (Post N P rs res)) : Fn P f args res := by
  refine ⟨fun vs w => by simp [callFunc, hf, hb]; simpa using hnm, fun F w vals hF hT hA => ?_⟩
  subst hrs
  refine calls_of_wp hf hb ?_
  let E : Env := { r := fun _ => none, F := F, G := fun _ => False }
  obtain ⟨h1, h2⟩ := argSl_ok (E := E) (F := F) rfl 0 hA
  have hle : args.length ≤ N := Nat.le_of_ble_eq_true ha
  have hsz : vals.size = args.length := by simpa using h1
  have hR : Rel N ⟨w, fun _ => False, fun _ => none, fun _ => True, fun _ => False, ⟨hT, fun _ _ h => h⟩, fun _ => False⟩ E ⟨argSl 0 args, [], 0⟩ { tmps := vals ++ Array.replicate (fn.ntmps - vals.size) undef, defers := [] } w := by
    refine ⟨⟨hF, fun _ h => h.elim, fun _ h => h.elim, (fun _ _ _ h => by cases h), (fun _ _ _ _ _ h => by cases h), rfl, rfl, rfl, Nat.le_refl _, fun _ _ _ => rfl, (fun _ _ _ h => by cases h), fun _ _ => .inl trivial, fun b h h' => absurd (hF b h) (by show ¬ b < w.heap.size; have : w.heap.size ≤ b := h'; omega), ⟨fun _ _ h => h.elim, fun _ _ _ h => h.elim, fun _ h => h.elim, fun _ h => h.elim, fun _ h => h.elim⟩⟩, (fun _ _ h => by cases h), (fun _ _ h => by cases h), fun k => ?_, rfl, by simp; omega, fun _ _ h => h.elim⟩
    by_cases hk : k < args.length
    · obtain ⟨u, h3, h4⟩ := (h2 k).1 ⟨Nat.zero_le _, by omega⟩
      have : (vals ++ Array.replicate (fn.ntmps - vals.size) undef).getD k undef = u := by
        have h5 : vals[k]? = some u := by simpa using h3
        have h6 : (vals ++ Array.replicate (fn.ntmps - vals.size) undef)[k]? = some u := by rw [Array.getElem?_append_left (by omega)]; exact h5
        simp [h6]
      rw [this]; exact h4
    · have := (h2 k).2 (by omega)
      show cvT E w (gt (argSl 0 args) k) _
      rw [this]; trivial
  refine wp_mono (h _ E _ w hR) ?_
  rintro e a' w' ⟨E', s', hR', hq⟩
  have fin : ∀ s', Rel N ⟨w, fun _ => False, fun _ => none, fun _ => True, fun _ => False, ⟨hT, fun _ _ h => h⟩, fun _ => False⟩ E' s' a' w' → (∃ s'', Weak N s' s'' ∧ Fin P fn.results.toList res s'') →
      a'.defers = [] ∧ ∃ v, (results fn a'.tmps).run P w' = .ok v w' ∧ ∃ v' G bs, Ending.returned v = .returned v' ∧ Past w w' (fun _ => False) ∧ (∀ b, G b → w.heap.size ≤ b ∧ b < w'.heap.size ∧ Plain w' b) ∧ resR w' G w.heap.size res v' bs ∧ (bs.map (·.1)).Nodup := by
    rintro s' hR' ⟨s'', hw, hfin⟩
    obtain ⟨E'', hR''⟩ := hw _ _ _ _ hR'
    obtain ⟨v, bs, k1, k2, k3⟩ := fin_ok hR'' hfin
    have ok := hR''.ok
    exact ⟨hR''.dfr, v, k1, v, E''.G, bs, rfl, ⟨ok.os, ok.tape, ok.output, ok.size, ok.block⟩, fun b hb => ⟨(ok.gn b hb).resolve_right id, ok.fb b (ok.gf b hb), ok.gc b (ok.gf b hb) ((ok.gn b hb).resolve_right id)⟩, k2, k3⟩
  cases e with
  | normal => exact fin s' hR' hq
  | ret => exact fin s' hR' hq
  | _ => exact hq.elim

/-! a call -/
def labC : C → List Nat
  | .w o _ => [o]
  | .s o _ _ _ => [o]
  | .wn o _ => [o]
  | _ => []
def labCs : List C → List Nat
  | [] => []
  | c :: cs => labC c ++ labCs cs
def labTs : List T → List Nat
  | [] => []
  | .v (.c c) :: ts => labC c ++ labTs ts
  | .v (.agg cs) :: ts => labCs cs ++ labTs ts
  | _ :: ts => labTs ts
def pickO (ob : List (Nat × Ob)) : List Nat → Option (List (Nat × Ob))
  | [] => some []
  | l :: ls => match go ob l, pickO ob ls with
    | some x, some r => some ((l, x) :: r)
    | _, _ => none
theorem pickO_Lo {ob : List (Nat × Ob)} : ∀ {ls : List Nat} {nob : List (Nat × Ob)}, pickO ob ls = some nob → Lo ob nob
  | [], nob, h => by simp [pickO] at h; subst h; trivial
  | l :: ls, nob, h => by
    simp only [pickO] at h
    split at h
    · rename_i x r h1 h2; simp at h; subst h; exact ⟨h1, pickO_Lo h2⟩
    · cases h
theorem go_mem {ob : List (Nat × Ob)} {l : Nat} {x : Ob} (h : go ob l = some x) : (l, x) ∈ ob := by
  induction ob with
  | nil => cases h
  | cons p r ih =>
    obtain ⟨k, v⟩ := p
    by_cases hk : k = l
    · subst hk; rw [go_same] at h; cases h; simp
    · rw [go_other _ _ hk] at h; exact .tail _ (ih h)
/-- A cell as an argument's data; and what must be equal for that. -/
def cdat (nob : List (Nat × Ob)) : C → Option (D × List (Nat × Nat))
  | .d _ x => some (x, [])
  | .nil => some (.l [], [])
  | .w o n => match go nob o with
    | some (.row _ _ els _ _) => some (.l els, [(els.length, n)])
    | _ => none
  | .wn o n => match go nob o with
    | some (.rown _ _ els _) => some (.l els, [(els.length, n)])
    | _ => none
  | .s o sz off len => match go nob o with
    | some (.row _ sz' els _ _) => match Nat.beq sz sz' with
      | true => some (.l ((els.drop off).take len), [(off + len - els.length, 0)])
      | false => none
    | _ => none
  | _ => none
def csdat (nob : List (Nat × Ob)) : List C → Option (List D × List (Nat × Nat))
  | [] => some ([], [])
  | c :: cs => match cdat nob c, csdat nob cs with
    | some (x, e), some (xs, es) => some (x :: xs, e ++ es)
    | _, _ => none
def tdat (nob : List (Nat × Ob)) : T → Option (AV × List (Nat × Nat))
  | .v (.c c) => match cdat nob c with
    | some (x, e) => some (.c x, e)
    | none => none
  | .v (.agg cs) => match csdat nob cs with
    | some (x, e) => some (.agg x, e)
    | none => none
  | _ => none
def tsdat (nob : List (Nat × Ob)) : List T → Option (List AV × List (Nat × Nat))
  | [] => some ([], [])
  | c :: cs => match tdat nob c, tsdat nob cs with
    | some (x, e), some (xs, es) => some (x :: xs, e ++ es)
    | _, _ => none
/-- The same, regions too. -/
def cdatR (nob : List (Nat × Ob)) : C → Option (D × List (Nat × Nat))
  | .r _ x => some (x, [])
  | c => cdat nob c
def csdatR (nob : List (Nat × Ob)) : List C → Option (List D × List (Nat × Nat))
  | [] => some ([], [])
  | c :: cs => match cdatR nob c, csdatR nob cs with
    | some (x, e), some (xs, es) => some (x :: xs, e ++ es)
    | _, _ => none
def tdatR (nob : List (Nat × Ob)) : T → Option (AV × List (Nat × Nat))
  | .v (.c c) => match cdatR nob c with
    | some (x, e) => some (.c x, e)
    | none => none
  | .v (.agg cs) => match csdatR nob cs with
    | some (x, e) => some (.agg x, e)
    | none => none
  | _ => none
def tsdatR (nob : List (Nat × Ob)) : List T → Option (List AV × List (Nat × Nat))
  | [] => some ([], [])
  | c :: cs => match tdatR nob c, tsdatR nob cs with
    | some (x, e), some (xs, es) => some (x :: xs, e ++ es)
    | _, _ => none
def Eqs : List (Nat × Nat) → Prop
  | [] => True
  | (a, b) :: r => a = b ∧ Eqs r
theorem Eqs_append : ∀ {l m : List (Nat × Nat)}, Eqs (l ++ m) → Eqs l ∧ Eqs m
  | [], m, h => ⟨trivial, h⟩
  | (a, b) :: l, m, h => let ⟨h1, h2⟩ := Eqs_append (l := l) h.2; ⟨⟨h.1, h1⟩, h2⟩
def callF (E : Env) (nob : List (Nat × Ob)) : Nat → Prop := fun b => E.F b ∨ ∃ l x c, go nob l = some x ∧ E.r l = some (b, c)
def callR (E : Env) (nob : List (Nat × Ob)) : Nat → Prop := fun b => callF E nob b ∨ ∃ l, E.T l b
section
variable {cx : Cx} {E : Env} {w : World} {nob : List (Nat × Ob)} (ok : EnvOK cx E w) (hob : ∀ l x, go nob l = some x → relOb E w l x)
include ok hob
theorem cdat_ok {c : C} {x : D} {e : List (Nat × Nat)} {u : Value} (h : cdat nob c = some (x, e)) (he : Eqs e) (hc : cvC E w c u) : rdD w (callF E nob) x u := by
  have hHF : ∀ g b, E.H g b → callF E nob b := fun g b hb => .inl (by cases g; exact hb; exact ok.gf b hb)
  cases c with
  | d g y => simp [cdat] at h; obtain ⟨rfl, rfl⟩ := h; exact rdD_mono (fun _ _ => rfl) (hHF g) _ _ hc
  | nil => simp [cdat] at h; obtain ⟨rfl, rfl⟩ := h; have : u = .slice none 0 0 := hc; subst this; rw [rdD]; exact ⟨none, 0, rfl, Nat.le_refl _, .inl rfl⟩
  | w o n =>
    simp only [cdat] at h
    split at h
    · rename_i t sz els g m ho
      simp at h; obtain ⟨rfl, rfl⟩ := h
      obtain ⟨b, cc, hr, rfl⟩ := hc
      obtain ⟨b', c', arr, hr', hh, ha, hlc, hmx, hes, hrd, _⟩ := hob o _ ho
      rw [hr] at hr'; cases hr'
      have hn : els.length = n := he.1
      subst hn
      rw [rdD]
      exact ⟨_, _, rfl, hlc, .inr ⟨b, 0, rfl, .inr ⟨o, _, cc, ho, hr⟩, rdLL_mono' (fun _ _ => rfl) (hHF g) rfl _ _ hrd⟩⟩
    · cases h
  | wn o n =>
    simp only [cdat] at h
    split at h
    · rename_i t sz els g ho
      simp at h; obtain ⟨rfl, rfl⟩ := h
      have hn : els.length = n := he.1
      rcases hc with ⟨h0, rfl, rfl⟩ | ⟨h0, b, cc, hr, rfl⟩
      · have : els = [] := List.eq_nil_of_length_eq_zero hn
        subst this
        rw [rdD]; exact ⟨none, 0, rfl, Nat.le_refl _, .inl rfl⟩
      · rcases hob o _ ho with ⟨h1, _⟩ | ⟨_, b', c', arr, hr', hh, ha, hlc, hmx, hes, hrd, _⟩
        · exact absurd h1 h0
        · rw [hr] at hr'; cases hr'
          subst hn
          rw [rdD]
          exact ⟨_, _, rfl, hlc, .inr ⟨b, 0, rfl, .inr ⟨o, _, cc, ho, hr⟩, rdLL_mono' (fun _ _ => rfl) (hHF g) rfl _ _ hrd⟩⟩
    · cases h
  | s o sz off len =>
    simp only [cdat] at h
    split at h
    · rename_i t sz' els g m ho
      split at h
      · rename_i hb
        have hsz := Nat.eq_of_beq_eq_true hb
        subst hsz
        simp at h; obtain ⟨rfl, rfl⟩ := h
        obtain ⟨A, cc, b, k, hr, rfl, hlc', hA⟩ := hc
        obtain ⟨b', c', arr, hr', hh, ha, hlc, hmx, hes, hrd, _⟩ := hob o _ ho
        rw [hr] at hr'; cases hr'
        have hle : off + len - els.length = 0 := he.1
        have hl : ((els.drop off).take len).length = len := by simp; omega
        rw [rdD]
        refine ⟨A, cc, by rw [hl], by rw [hl]; exact hlc', ?_⟩
        rcases hA with h0 | h0
        · left; exact List.eq_nil_of_length_eq_zero (by rw [hl]; exact h0)
        · right; exact ⟨b, off * sz, h0, .inr ⟨o, _, k, ho, hr⟩, rdLL_mono' (fun _ _ => rfl) (hHF g) rfl _ _ (by simpa using rdLL_take len (rdLL_drop hrd hes off))⟩
      · cases h
    · cases h
  | _ => simp [cdat] at h
theorem csdat_ok : ∀ {cs : List C} {xs : List D} {e : List (Nat × Nat)} {us : List Value}, csdat nob cs = some (xs, e) → Eqs e → CV E w cs us → DV w (callF E nob) xs us
  | [], xs, e, us, h, he, hc => by
    simp [csdat] at h; obtain ⟨rfl, rfl⟩ := h
    cases us with
    | nil => trivial
    | cons _ _ => exact hc.elim
  | c :: cs, xs, e, us, h, he, hc => by
    cases us with
    | nil => exact hc.elim
    | cons u us =>
      simp only [csdat] at h
      split at h
      · rename_i x e1 xs' e2 h1 h2
        simp at h; obtain ⟨rfl, rfl⟩ := h
        obtain ⟨k1, k2⟩ := Eqs_append he
        exact ⟨cdat_ok ok hob h1 k1 hc.1, csdat_ok h2 k2 hc.2⟩
      · cases h
theorem tdat_ok {t : T} {x : AV} {e : List (Nat × Nat)} {u : Value} (h : tdat nob t = some (x, e)) (he : Eqs e) (hc : cvT E w t u) : avR w (callF E nob) x u := by
  unfold tdat at h
  split at h
  · split at h
    · rename_i h1; simp at h; obtain ⟨rfl, rfl⟩ := h; exact cdat_ok ok hob h1 he hc
    · cases h
  · split at h
    · rename_i h1; simp at h; obtain ⟨rfl, rfl⟩ := h; obtain ⟨arr, hu, hc⟩ := hc; exact ⟨arr, hu, csdat_ok ok hob h1 he hc⟩
    · cases h
  · cases h
theorem tsdat_ok {a : Act} : ∀ {ts : List T} {xs : List AV} {e : List (Nat × Nat)} {args : List Operand}, tsdat nob ts = some (xs, e) → Eqs e → ts.length = args.length → (∀ x t, (x, t) ∈ args.zip ts → cvT E w t (a.eval x)) → AR w (callF E nob) xs (args.map a.eval)
  | [], xs, e, [], h, he, hl, hn => by simp [tsdat] at h; obtain ⟨rfl, rfl⟩ := h; trivial
  | t :: ts, xs, e, x :: args, h, he, hl, hn => by
    simp only [tsdat] at h
    split at h
    · rename_i y e1 ys e2 h1 h2
      simp at h; obtain ⟨rfl, rfl⟩ := h
      obtain ⟨k1, k2⟩ := Eqs_append he
      exact ⟨tdat_ok ok hob h1 k1 (hn x t (by simp)), tsdat_ok h2 k2 (by simpa using hl) fun x t hm => hn x t (by simp only [List.zip_cons_cons]; exact .tail _ hm)⟩
    · cases h
  | [], _, _, _ :: _, _, _, hl, _ => by simp at hl
  | _ :: _, _, _, [], _, _, hl, _ => by simp at hl
theorem cdatR_ok {c : C} {x : D} {e : List (Nat × Nat)} {u : Value} (h : cdatR nob c = some (x, e)) (he : Eqs e) (hc : cvC E w c u) : rdD w (callR E nob) x u := by
  have gen : ∀ {c : C}, cdat nob c = some (x, e) → cvC E w c u → rdD w (callR E nob) x u := fun h hc => rdD_mono (fun _ _ => rfl) (fun b hb => .inl hb) _ _ (cdat_ok ok hob h he hc)
  cases c with
  | r l y => simp [cdatR] at h; obtain ⟨rfl, rfl⟩ := h; exact rdD_mono (fun _ _ => rfl) (fun b hb => .inr ⟨l, hb⟩) _ _ hc
  | _ => exact gen (by simpa only [cdatR] using h) hc
theorem csdatR_ok : ∀ {cs : List C} {xs : List D} {e : List (Nat × Nat)} {us : List Value}, csdatR nob cs = some (xs, e) → Eqs e → CV E w cs us → DV w (callR E nob) xs us
  | [], xs, e, us, h, he, hc => by
    simp [csdatR] at h; obtain ⟨rfl, rfl⟩ := h
    cases us with
    | nil => trivial
    | cons _ _ => exact hc.elim
  | c :: cs, xs, e, us, h, he, hc => by
    cases us with
    | nil => exact hc.elim
    | cons u us =>
      simp only [csdatR] at h
      split at h
      · rename_i x e1 xs' e2 h1 h2
        simp at h; obtain ⟨rfl, rfl⟩ := h
        obtain ⟨k1, k2⟩ := Eqs_append he
        exact ⟨cdatR_ok ok hob h1 k1 hc.1, csdatR_ok h2 k2 hc.2⟩
      · cases h
theorem tdatR_ok {t : T} {x : AV} {e : List (Nat × Nat)} {u : Value} (h : tdatR nob t = some (x, e)) (he : Eqs e) (hc : cvT E w t u) : avR w (callR E nob) x u := by
  unfold tdatR at h
  split at h
  · split at h
    · rename_i h1; simp at h; obtain ⟨rfl, rfl⟩ := h; exact cdatR_ok ok hob h1 he hc
    · cases h
  · split at h
    · rename_i h1; simp at h; obtain ⟨rfl, rfl⟩ := h; obtain ⟨arr, hu, hc⟩ := hc; exact ⟨arr, hu, csdatR_ok ok hob h1 he hc⟩
    · cases h
  · cases h
theorem tsdatR_ok {a : Act} : ∀ {ts : List T} {xs : List AV} {e : List (Nat × Nat)} {args : List Operand}, tsdatR nob ts = some (xs, e) → Eqs e → ts.length = args.length → (∀ x t, (x, t) ∈ args.zip ts → cvT E w t (a.eval x)) → AR w (callR E nob) xs (args.map a.eval)
  | [], xs, e, [], h, he, hl, hn => by simp [tsdatR] at h; obtain ⟨rfl, rfl⟩ := h; trivial
  | t :: ts, xs, e, x :: args, h, he, hl, hn => by
    simp only [tsdatR] at h
    split at h
    · rename_i y e1 ys e2 h1 h2
      simp at h; obtain ⟨rfl, rfl⟩ := h
      obtain ⟨k1, k2⟩ := Eqs_append he
      exact ⟨tdatR_ok ok hob h1 k1 (hn x t (by simp)), tsdatR_ok h2 k2 (by simpa using hl) fun x t hm => hn x t (by simp only [List.zip_cons_cons]; exact .tail _ hm)⟩
    · cases h
  | [], _, _, _ :: _, _, _, hl, _ => by simp at hl
  | _ :: _, _, _, [], _, _, hl, _ => by simp at hl
end
/-- What a result is to the caller. -/
def impC (nx : Nat) : RC → Option (C × List (Nat × Ob) × Nat)
  | .d (.i k n) => some (.d false (.i k n), [], nx)
  | .d (.b x) => some (.d false (.b x), [], nx)
  | .d (.str s) => some (.d false (.str s), [], nx)
  | .d (.l xs) => some (.d true (.l xs), [], nx)
  | .d (.k _ _ _) => none
  | .own ty sz els n => some (.w nx n, [(nx, .row ty sz els true true)], nx + 1)
  | .nil => some (.nil, [], nx)
def impCs (nx : Nat) : List RC → Option (List C × List (Nat × Ob) × Nat)
  | [] => some ([], [], nx)
  | r :: rs => match impC nx r with
    | some (c, b, n) => match impCs n rs with
      | some (cs, bs, m) => some (c :: cs, b ++ bs, m)
      | none => none
    | none => none
def impV (nx : Nat) : RV → Option (V × List (Nat × Ob) × Nat)
  | .c r => match impC nx r with
    | some (c, b, n) => some (.c c, b, n)
    | none => none
  | .agg rs => match impCs nx rs with
    | some (c, b, n) => some (.agg c, b, n)
    | none => none
def impVs (nx : Nat) : List RV → Option (List V × List (Nat × Ob) × Nat)
  | [] => some ([], [], nx)
  | r :: rs => match impV nx r with
    | some (c, b, n) => match impVs n rs with
      | some (cs, bs, m) => some (c :: cs, b ++ bs, m)
      | none => none
    | none => none
def impR (nx : Nat) : List RV → Option (T × List (Nat × Ob) × Nat)
  | [r] => match impV nx r with
    | some (v, b, n) => some (.v v, b, n)
    | none => none
  | rs => match impVs nx rs with
    | some (v, b, n) => some (.tup v, b, n)
    | none => none
/-- What an import asks of the new environment: the labels from nx on are the rows bs; and that is what it gives. -/
def Imp (E : Env) (w : World) (nx n : Nat) (bs : List (Nat × Nat)) (nw : List (Nat × Ob)) : Prop :=
  n = nx + bs.length ∧ (∀ l x, (l, x) ∈ nw → relOb E w l x ∧ nx ≤ l ∧ l < n) ∧ ∀ l, nx ≤ l → l < n → ∃ x, (l, x) ∈ nw
theorem Imp.join {E : Env} {w : World} {nx n m : Nat} {b1 b2 : List (Nat × Nat)} {nw1 nw2 : List (Nat × Ob)} (h1 : Imp E w nx n b1 nw1) (h2 : Imp E w n m b2 nw2) : Imp E w nx m (b1 ++ b2) (nw1 ++ nw2) := by
  obtain ⟨rfl, h1b, h1c⟩ := h1
  obtain ⟨rfl, h2b, h2c⟩ := h2
  refine ⟨by simp; omega, fun l x hm => ?_, fun l hl1 hl2 => ?_⟩
  · rcases List.mem_append.1 hm with h | h
    · have := h1b l x h; exact ⟨this.1, by omega, by omega⟩
    · have := h2b l x h; exact ⟨this.1, by omega, by omega⟩
  · by_cases hl : l < nx + b1.length
    · obtain ⟨x, hx⟩ := h1c l hl1 hl; exact ⟨x, by simp [hx]⟩
    · obtain ⟨x, hx⟩ := h2c l (by omega) hl2; exact ⟨x, by simp [hx]⟩
section
variable {E : Env} {w : World} {G : Nat → Prop} {base : Nat} (hG : ∀ b, G b → E.G b) (hnF : ∀ b : Nat, base ≤ b → ¬ G b → ¬ E.F b)
include hG hnF
theorem impC_ok {r : RC} {u : Value} {bs : List (Nat × Nat)} {nx n : Nat} {c : C} {nw : List (Nat × Ob)} (h : impC nx r = some (c, nw, n)) (hr : rcR w G base r u bs) (hb : ∀ (i : Nat) (p : Nat × Nat), bs[i]? = some p → E.r (nx + i) = some p) :
    cvC E w c u ∧ Imp E w nx n bs nw := by
  cases r with
  | d x =>
    obtain ⟨rfl, hr⟩ := hr
    cases x <;> simp [impC] at h <;> obtain ⟨rfl, rfl, rfl⟩ := h <;> refine ⟨?_, ⟨rfl, by simp, fun l h1 h2 => by omega⟩⟩
    · simp only [cvC, rdD] at hr ⊢; exact hr
    · simp only [cvC, rdD] at hr ⊢; exact hr
    · simp only [cvC, rdD] at hr ⊢; exact hr
    · exact rdD_mono (fun _ _ => rfl) hG _ _ hr
  | own ty sz els n' =>
    obtain ⟨b, cc, arr, rfl, rfl, hh, ha, hlc, hmx, hes, hrd, hgb, hbb⟩ := hr
    simp [impC] at h; obtain ⟨rfl, rfl, rfl⟩ := h
    have := hb 0 (b, cc) rfl
    rw [Nat.add_zero] at this
    refine ⟨⟨b, cc, this, rfl⟩, ⟨rfl, fun l x hm => ?_, fun l h1 h2 => ⟨.row ty sz els true true, by simp at h2 ⊢; omega⟩⟩⟩
    simp at hm; obtain ⟨rfl, rfl⟩ := hm
    exact ⟨⟨b, cc, arr, this, hh, ha, hlc, hmx, hes, rdLL_mono' (fun _ _ => rfl) hG rfl _ _ hrd, fun _ => hnF b hbb hgb, fun h => by cases h⟩, by omega, by omega⟩
  | nil =>
    obtain ⟨rfl, hr⟩ := hr
    simp [impC] at h; obtain ⟨rfl, rfl, rfl⟩ := h
    exact ⟨hr, ⟨rfl, by simp, fun l h1 h2 => by omega⟩⟩
omit hG hnF in
theorem bs_split {b1 b2 : List (Nat × Nat)} {nx : Nat} (hb : ∀ (i : Nat) (p : Nat × Nat), (b1 ++ b2)[i]? = some p → E.r (nx + i) = some p) :
    (∀ (i : Nat) (p : Nat × Nat), b1[i]? = some p → E.r (nx + i) = some p) ∧ ∀ (i : Nat) (p : Nat × Nat), b2[i]? = some p → E.r (nx + b1.length + i) = some p := by
  refine ⟨fun i p hi => hb i p ?_, fun i p hi => ?_⟩
  · have : i < b1.length := (List.getElem?_eq_some_iff.1 hi).1
    rw [List.getElem?_append_left this]; exact hi
  · have := hb (b1.length + i) p (by rw [List.getElem?_append_right (by omega)]; simpa using hi)
    rwa [← Nat.add_assoc] at this
theorem impCs_ok : ∀ {rs : List RC} {us : List Value} {bs : List (Nat × Nat)} {nx n : Nat} {cs : List C} {nw : List (Nat × Ob)}, impCs nx rs = some (cs, nw, n) → rcsR w G base rs us bs → (∀ (i : Nat) (p : Nat × Nat), bs[i]? = some p → E.r (nx + i) = some p) →
    CV E w cs us ∧ Imp E w nx n bs nw
  | [], us, bs, nx, n, cs, nw, h, hr, hb => by
    simp [impCs] at h; obtain ⟨rfl, rfl, rfl⟩ := h
    cases us with
    | nil => have : bs = [] := hr; subst this; exact ⟨trivial, ⟨rfl, by simp, fun l h1 h2 => by omega⟩⟩
    | cons _ _ => exact hr.elim
  | r :: rs, us, bs, nx, n, cs, nw, h, hr, hb => by
    cases us with
    | nil => exact hr.elim
    | cons u us =>
      obtain ⟨b1, b2, rfl, hr1, hr2⟩ := hr
      simp only [impCs] at h
      split at h
      · rename_i c nw1 n1 h1
        split at h
        · rename_i cs2 nw2 n2 h2
          simp at h; obtain ⟨rfl, rfl, rfl⟩ := h
          obtain ⟨hb1, hb2⟩ := bs_split hb
          obtain ⟨k1, k2⟩ := impC_ok hG hnF h1 hr1 hb1
          have hn1 := k2.1
          subst hn1
          obtain ⟨m1, m2⟩ := impCs_ok h2 hr2 hb2
          exact ⟨⟨k1, m1⟩, k2.join m2⟩
        · cases h
      · cases h
theorem impV_ok {r : RV} {u : Value} {bs : List (Nat × Nat)} {nx n : Nat} {v : V} {nw : List (Nat × Ob)} (h : impV nx r = some (v, nw, n)) (hr : rvR w G base r u bs) (hb : ∀ (i : Nat) (p : Nat × Nat), bs[i]? = some p → E.r (nx + i) = some p) :
    cvV E w v u ∧ Imp E w nx n bs nw := by
  cases r with
  | c r =>
    simp only [impV] at h
    split at h
    · rename_i h1; simp at h; obtain ⟨rfl, rfl, rfl⟩ := h; exact impC_ok hG hnF h1 hr hb
    · cases h
  | agg rs =>
    simp only [impV] at h
    split at h
    · rename_i h1; simp at h; obtain ⟨rfl, rfl, rfl⟩ := h
      obtain ⟨arr, hu, hr⟩ := hr
      obtain ⟨k1, k2⟩ := impCs_ok hG hnF h1 hr hb
      exact ⟨⟨arr, hu, k1⟩, k2⟩
    · cases h
theorem impVs_ok : ∀ {rs : List RV} {us : List Value} {bs : List (Nat × Nat)} {nx n : Nat} {cs : List V} {nw : List (Nat × Ob)}, impVs nx rs = some (cs, nw, n) → rvsR w G base rs us bs → (∀ (i : Nat) (p : Nat × Nat), bs[i]? = some p → E.r (nx + i) = some p) →
    VV E w cs us ∧ Imp E w nx n bs nw
  | [], us, bs, nx, n, cs, nw, h, hr, hb => by
    simp [impVs] at h; obtain ⟨rfl, rfl, rfl⟩ := h
    cases us with
    | nil => have : bs = [] := hr; subst this; exact ⟨trivial, ⟨rfl, by simp, fun l h1 h2 => by omega⟩⟩
    | cons _ _ => exact hr.elim
  | r :: rs, us, bs, nx, n, cs, nw, h, hr, hb => by
    cases us with
    | nil => exact hr.elim
    | cons u us =>
      obtain ⟨b1, b2, rfl, hr1, hr2⟩ := hr
      simp only [impVs] at h
      split at h
      · rename_i c nw1 n1 h1
        split at h
        · rename_i cs2 nw2 n2 h2
          simp at h; obtain ⟨rfl, rfl, rfl⟩ := h
          obtain ⟨hb1, hb2⟩ := bs_split hb
          obtain ⟨k1, k2⟩ := impV_ok hG hnF h1 hr1 hb1
          have hn1 := k2.1
          subst hn1
          obtain ⟨m1, m2⟩ := impVs_ok h2 hr2 hb2
          exact ⟨⟨k1, m1⟩, k2.join m2⟩
        · cases h
      · cases h
theorem impR_ok {rs : List RV} {u : Value} {bs : List (Nat × Nat)} {nx n : Nat} {t : T} {nw : List (Nat × Ob)} (h : impR nx rs = some (t, nw, n)) (hr : resR w G base rs u bs) (hb : ∀ (i : Nat) (p : Nat × Nat), bs[i]? = some p → E.r (nx + i) = some p) :
    cvT E w t u ∧ Imp E w nx n bs nw := by
  match rs, h, hr with
  | [r], h, hr =>
    simp only [impR] at h
    split at h
    · rename_i h1; simp at h; obtain ⟨rfl, rfl, rfl⟩ := h; exact impV_ok hG hnF h1 hr hb
    · cases h
  | [], h, hr =>
    simp only [impR] at h
    split at h
    · rename_i h1; simp at h; obtain ⟨rfl, rfl, rfl⟩ := h
      obtain ⟨arr, hu, hr⟩ := hr
      obtain ⟨k1, k2⟩ := impVs_ok hG hnF h1 hr hb
      exact ⟨⟨arr, hu, k1⟩, k2⟩
    · cases h
  | r1 :: r2 :: rs, h, hr =>
    simp only [impR] at h
    split at h
    · rename_i h1; simp at h; obtain ⟨rfl, rfl, rfl⟩ := h
      obtain ⟨arr, hu, hr⟩ := hr
      obtain ⟨k1, k2⟩ := impVs_ok hG hnF h1 hr hb
      exact ⟨⟨arr, hu, k1⟩, k2⟩
    · cases h
end
end Go.AM
