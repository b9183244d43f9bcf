/-
  The abstract machine, part C: regions, control, loops.
-/
import Derived.Test.YtlpclccdbmoemaaGreatAmB
set_option linter.unusedVariables false
namespace Go.AM
open Go.RowKit

theorem wp_monoQ {P : Program} {o : Oper} {a : Act} {w : World} {K : Act → World → Prop} {Q Q' : Exit → Act → World → Prop} (hQ : ∀ e a w, Q e a w → Q' e a w)
    (hh : o.wp P a w K Q) : o.wp P a w K Q' := by
  unfold Oper.wp at *
  generalize (execOp a.eval o).run P w = r at *
  cases r with
  | ok n w' =>
    cases n <;> simp only [Oper.upon] at hh ⊢ <;>
      first
        | exact hh
        | exact Calls.mono hh (fun e w'' he => by
            cases e <;> first | exact he | exact hQ _ _ _ he | (obtain ⟨a0, w0, h0⟩ := he; exact ⟨a0, w0, hQ _ _ _ h0⟩))
  | halt x w' => cases x <;> simp only [Oper.upon] at hh ⊢ <;> first | exact hh | exact hQ _ _ _ hh

/-- The post of a piece: states instead of frames and worlds. -/
def lift (N : Nat) (cx : Cx) (AQ : Exit → St → Prop) : Exit → Act → World → Prop := fun e a w => ∃ E st, Rel N cx E st a w ∧ AQ e st
def onN (K : St → Prop) : Exit → St → Prop
  | .normal, s => K s
  | _, _ => False
def thenN (K : St → Prop) (AQ : Exit → St → Prop) : Exit → St → Prop
  | .normal, s => K s
  | e, s => AQ e s

def AWR (P : Program) (N : Nat) (ops : Array Oper) (l : List Oper) (st : St) (K : St → Prop) : Prop :=
  ∀ (cx : Cx) (E : Env) (a : Act) (w : World), Rel N cx E st a w → wpList P ops (lift N cx (onN K)) l a w
def AWC (P : Program) (N : Nat) (c : Code) (st : St) (AQ : Exit → St → Prop) : Prop :=
  ∀ (cx : Cx) (E : Env) (a : Act) (w : World), Rel N cx E st a w → c.wp P (lift N cx AQ) a w

section
variable {P : Program} {N : Nat} {ops : Array Oper} {l : List Oper} {o : Oper} {st st' : St} {K : St → Prop} {AQ : Exit → St → Prop}

theorem awr_nil (h : K st) : AWR P N ops [] st K := fun cx E a w hR => wpList_nil ⟨E, st, hR, h⟩
theorem wpList_cons {Q : Exit → Act → World → Prop} {a : Act} {w : World} : wpList P ops Q (o :: l) a w = if Region.wanted o (yielded ops a.tmps) then o.wp P a w (wpList P ops Q l) Q ∨ (o.asks P a w ∧ LetsOut Q) else wpList P ops Q l (a.put o.dst undef) w := rfl
theorem awr_step (hg : o.guard = none) (h : AWO P N o st st') (h' : AWR P N ops l st' K) : AWR P N ops (o :: l) st K := by
  intro cx E a w hR
  rw [wpList_cons, if_pos (by simp [Region.wanted, hg])]
  exact .inl (wp_monoQ (fun _ _ _ h => h.elim) (Oper.wp_mono (fun a' w' ⟨E', hR'⟩ => h' cx E' a' w' hR') (h cx E a w hR)))
theorem yield_bool {N : Nat} {cx : Cx} {E : Env} {a : Act} {w : World} {j : Nat} {dj : Tmp} {b : Bool} (hR : Rel N cx E st a w) (hj : (ops[j]?).bind (·.dst) = some dj) (hdj : dj < N) (hb : gt st.sl dj = tB b) :
    yielded ops a.tmps j = some b := by
  have := hR.sl dj
  rw [hb] at this
  simp only [cvT, cvV, cvC, rdD] at this
  have hs : dj < a.tmps.size := by rw [hR.size]; exact hdj
  have h2 : a.tmps[dj]? = some (.bool b) := by
    rw [Array.getElem?_eq_getElem hs]
    simpa [Array.getD, hs] using this
  unfold yielded
  cases ho : ops[j]? with
  | none => simp [ho] at hj
  | some o =>
    simp [ho] at hj
    simp [hj, h2]
theorem awr_guard_run {j : Nat} {dj : Tmp} {b : Bool} (hg : o.guard = some (j, b)) (hj : (ops[j]?).bind (·.dst) = some dj) (hdj : dj < N) (hb : gt st.sl dj = tB b) (h : AWO P N o st st') (h' : AWR P N ops l st' K) :
    AWR P N ops (o :: l) st K := by
  intro cx E a w hR
  rw [wpList_cons, if_pos (by simp [Region.wanted, hg, yield_bool hR hj hdj hb])]
  exact .inl (wp_monoQ (fun _ _ _ h => h.elim) (Oper.wp_mono (fun a' w' ⟨E', hR'⟩ => h' cx E' a' w' hR') (h cx E a w hR)))
theorem Rel.putAny {cx : Cx} {E : Env} {a : Act} {w : World} (hR : Rel N cx E st a w) {d : Tmp} (hd : d < N) (v : Value) : Rel N cx E ⟨(d, .any) :: st.sl, st.ob, st.nx⟩ (a.put (some d) v) w := by
  refine ⟨hR.ok, hR.dom, hR.obs, fun k => ?_, hR.dfr, by simpa [Act.put] using hR.size, hR.td⟩
  rw [getD_put (by rw [hR.size]; exact hd)]
  by_cases hk : d = k
  · subst hk; rw [gt_same]; trivial
  · rw [gt_other _ _ hk, if_neg hk]; exact hR.sl k
/-- A slot by whose word an operation that asks for b is left out. -/
def noG (b : Bool) : T → Bool
  | .v (.c (.d _ (.b c))) => c == !b
  | .tup [] => true
  | _ => false
theorem yield_no {N : Nat} {ops : Array Oper} {E : Env} {tmps : Array Value} {w : World} {j : Nat} {dj : Tmp} {b : Bool} {t : T} (hv : cvT E w t (tmps.getD dj undef)) (hs : dj < tmps.size) (hj : (ops[j]?).bind (·.dst) = some dj) (hb : noG b t = true) :
    yielded ops tmps j ≠ some b := by
  have h2 : tmps[dj]? = some (tmps.getD dj undef) := by rw [Array.getElem?_eq_getElem hs]; simp [Array.getD, hs]
  unfold yielded
  rw [hj]
  simp only [Option.bind_some, h2]
  unfold noG at hb
  split at hb
  · rename_i g c
    simp only [cvT, cvV, cvC, rdD] at hv
    rw [hv]
    simp at hb; subst hb
    simp
  · obtain ⟨arr, h1, h3⟩ := hv
    rw [h1]; simp
  · cases hb
theorem Rel.putUnd {cx : Cx} {E : Env} {a : Act} {w : World} (hR : Rel N cx E st a w) {d : Tmp} (hd : d < N) : Rel N cx E ⟨(d, .tup []) :: st.sl, st.ob, st.nx⟩ (a.put (some d) undef) w := by
  refine ⟨hR.ok, hR.dom, hR.obs, fun k => ?_, hR.dfr, by simpa [Act.put] using hR.size, hR.td⟩
  rw [getD_put (by rw [hR.size]; exact hd)]
  by_cases hk : d = k
  · subst hk; rw [gt_same, if_pos rfl]; exact ⟨#[], rfl, trivial⟩
  · rw [gt_other _ _ hk, if_neg hk]; exact hR.sl k
theorem awr_guard_skip {j : Nat} {dj d : Tmp} {b : Bool} (hg : o.guard = some (j, b)) (hj : (ops[j]?).bind (·.dst) = some dj) (hdj : dj < N) (hb : noG b (gt st.sl dj) = true) (hd : o.dst = some d) (hN : d < N)
    (h' : AWR P N ops l ⟨(d, .tup []) :: st.sl, st.ob, st.nx⟩ K) : AWR P N ops (o :: l) st K := by
  intro cx E a w hR
  rw [wpList_cons, if_neg (by simp [Region.wanted, hg, yield_no (N := N) (hR.sl dj) (by rw [hR.size]; exact hdj) hj hb]), hd]
  exact h' cx E _ w (hR.putUnd hN)
/-- A slot that holds a bool, decided. -/
theorem Rel.decide {cx : Cx} {E : Env} {a : Act} {w : World} (hR : Rel N cx E st a w) {d : Tmp} {b c : Bool} (hb : gt st.sl d = tB b) (h : b = c) : Rel N cx E ⟨(d, tB c) :: st.sl, st.ob, st.nx⟩ a w := by
  refine ⟨hR.ok, hR.dom, hR.obs, fun k => ?_, hR.dfr, hR.size, hR.td⟩
  by_cases hk : d = k
  · subst hk; rw [gt_same, ← h, ← hb]; exact hR.sl d
  · rw [gt_other _ _ hk]; exact hR.sl k
theorem awr_split {d : Tmp} {b : Bool} (hb : gt st.sl d = tB b) (h1 : b = true → AWR P N ops l ⟨(d, tB true) :: st.sl, st.ob, st.nx⟩ K) (h0 : b = false → AWR P N ops l ⟨(d, tB false) :: st.sl, st.ob, st.nx⟩ K) :
    AWR P N ops l st K := by
  intro cx E a w hR
  cases hc : b with
  | true => exact h1 hc cx E a w (hR.decide hb hc)
  | false => exact h0 hc cx E a w (hR.decide hb hc)
theorem awr_mono {K' : St → Prop} (h : ∀ s, K s → K' s) (hh : AWR P N ops l st K) : AWR P N ops l st K' := by
  intro cx E a w hR
  have := hh cx E a w hR
  revert this
  have key : ∀ (l : List Oper) (a : Act) (w : World), wpList P ops (lift N cx (onN K)) l a w → wpList P ops (lift N cx (onN K')) l a w := by
    intro l
    have hQ : ∀ e a w, lift N cx (onN K) e a w → lift N cx (onN K') e a w := by
      rintro e a w ⟨E, s, hR, hq⟩
      refine ⟨E, s, hR, ?_⟩
      cases e <;> simp only [onN] at hq ⊢
      exact h s hq
    induction l with
    | nil => exact fun a w h => hQ _ _ _ h
    | cons o l ih =>
      intro a w hw
      rw [wpList_cons] at hw ⊢
      split
      · rename_i hwt
        rw [if_pos hwt] at hw
        rcases hw with hw | ⟨h1, a0, w0, h2⟩
        · exact .inl (wp_monoQ hQ (Oper.wp_mono ih hw))
        · exact .inr ⟨h1, a0, w0, hQ _ _ _ h2⟩
      · rename_i hwt
        rw [if_neg hwt] at hw
        exact ih _ _ hw
  exact key l a w

/-! control -/
theorem awc_mono {c : Code} {AQ' : Exit → St → Prop} (h : AWC P N c st AQ) (hq : ∀ e s, AQ e s → AQ' e s) : AWC P N c st AQ' :=
  fun cx E a w hR => wp_mono (h cx E a w hR) fun e a w ⟨E, s, hR, q⟩ => ⟨E, s, hR, hq e s q⟩
theorem awc_skip (h : AQ .normal st) : AWC P N .skip st AQ := fun cx E a w hR => wp_skip ⟨E, st, hR, h⟩
theorem awc_ret (h : AQ .ret st) : AWC P N .ret st AQ := fun cx E a w hR => wp_ret ⟨E, st, hR, h⟩
theorem awc_exit {id : Nat} (h : AQ (.exit id) st) : AWC P N (.exit id) st AQ := fun cx E a w hR => wp_exit ⟨E, st, hR, h⟩
theorem awc_seq {x y : Code} (h : AWC P N x st (thenN (fun s => AWC P N y s AQ) AQ)) : AWC P N (x.seq y) st AQ := fun cx E a w hR =>
  wp_seq (wp_mono (h cx E a w hR) fun e a w ⟨E, s, hR, q⟩ => by
    cases e <;> first | exact q cx E a w hR | exact ⟨E, s, hR, q⟩)
theorem awc_region {id : Nat} {l : List Oper} (h : AWR P N l.toArray l st (fun s => AQ .normal s)) : AWC P N (.region id l.toArray false) st AQ := fun cx E a w hR =>
  wp_mono (wp_region_lit (h cx E a w hR)) fun e a w ⟨E, s, hR, q⟩ => ⟨E, s, hR, by cases e <;> first | exact q | exact q.elim⟩
theorem awc_seq_region {id : Nat} {l : List Oper} {y : Code} (h : AWR P N l.toArray l st (fun s => AWC P N y s AQ)) : AWC P N ((Code.region id l.toArray false).seq y) st AQ :=
  awc_seq (awc_region h)
theorem eval_bool {cx : Cx} {E : Env} {a : Act} {w : World} {c : Operand} {b : Bool} (hR : Rel N cx E st a w) (hb : opT st.sl c = tB b) : a.eval c = .bool b := by
  have := hR.op c
  rw [hb] at this
  simpa [cvT, cvV, cvC, rdD] using this
theorem awc_cond_true {c : Operand} {x y : Code} (hb : opT st.sl c = tB true) (h : AWC P N x st AQ) : AWC P N (.cond c x y) st AQ := fun cx E a w hR => wp_cond_true (eval_bool hR hb) (h cx E a w hR)
theorem awc_cond_false {c : Operand} {x y : Code} (hb : opT st.sl c = tB false) (h : AWC P N y st AQ) : AWC P N (.cond c x y) st AQ := fun cx E a w hR => wp_cond_false (eval_bool hR hb) (h cx E a w hR)
theorem awc_cond {c : Operand} {x y : Code} {b : Bool} (hb : opT st.sl c = tB b) (h1 : b = true → AWC P N x st AQ) (h0 : b = false → AWC P N y st AQ) : AWC P N (.cond c x y) st AQ := fun cx E a w hR =>
  wp_cond_split (eval_bool hR hb) (fun h => h1 h cx E a w hR) (fun h => h0 h cx E a w hR)
def blockQ (id : Nat) (AQ : Exit → St → Prop) : Exit → St → Prop
  | .exit n, s => bif Nat.beq n id then AQ .normal s else AQ (.exit n) s
  | e, s => AQ e s
theorem awc_block {id : Nat} {c : Code} (h : AWC P N c st (blockQ id AQ)) : AWC P N (.block id c) st AQ := fun cx E a w hR =>
  wp_block (wp_mono (h cx E a w hR) fun e a w ⟨E, s, hR, q⟩ => by
    cases e with
    | exit n =>
      simp only [Exit.inBlock]
      by_cases hn : n = id
      · subst hn; rw [if_pos rfl]; exact ⟨E, s, hR, by simpa [blockQ] using q⟩
      · rw [if_neg hn]; exact ⟨E, s, hR, by simpa [blockQ, beq_ne hn] using q⟩
    | _ => exact ⟨E, s, hR, q⟩)

/-- One state says less than another. -/
def Weak (N : Nat) (st st' : St) : Prop := ∀ (cx : Cx) (E : Env) (a : Act) (w : World), Rel N cx E st a w → ∃ E', Rel N cx E' st' a w
theorem awc_weak {c : Code} (hw : Weak N st st') (h : AWC P N c st' AQ) : AWC P N c st AQ := fun cx E a w hR => let ⟨E', hR'⟩ := hw cx E a w hR; h cx E' a w hR'
theorem awr_weak (hw : Weak N st st') (h : AWR P N ops l st' K) : AWR P N ops l st K := fun cx E a w hR => let ⟨E', hR'⟩ := hw cx E a w hR; h cx E' a w hR'
def C.lt (n : Nat) : C → Bool
  | .w o _ | .s o _ _ _ | .p o _ | .e o _ _ _ | .r o _ | .wn o _ => nlt o n
  | _ => true
def V.lt (n : Nat) : V → Bool
  | .c x => x.lt n
  | .agg cs => cs.all (C.lt n)
def T.lt (n : Nat) : T → Bool
  | .v x => x.lt n
  | .tup ts => ts.all (V.lt n)
  | .any => true
def Ob.lt (n : Nat) : Ob → Bool
  | .var _ cs => cs.all (C.lt n)
  | .row .. | .rown .. => true
  | .abs l _ => nlt l n
theorem blt_lt {a b : Nat} (h : nlt a b = true) : a < b := Nat.le_of_ble_eq_true h
def LeS (sl : List (Nat × T)) (n : Nat) : List (Nat × T) → Prop
  | [] => True
  | (k, t) :: r => gt sl k = t ∧ t.lt n = true ∧ LeS sl n r
def LeO (ob : List (Nat × Ob)) (n : Nat) : List (Nat × Ob) → Prop
  | [] => True
  | (l, x) :: r => go ob l = some x ∧ (nlt l n = true ∧ x.lt n = true) ∧ LeO ob n r
theorem LeS.gt {sl sl' : List (Nat × T)} {n : Nat} (h : LeS sl n sl') (k : Nat) : (AM.gt sl' k = .any ∨ AM.gt sl' k = AM.gt sl k) ∧ (AM.gt sl' k).lt n = true := by
  induction sl' with
  | nil => exact ⟨.inl rfl, rfl⟩
  | cons p r ih =>
    obtain ⟨j, t⟩ := p
    by_cases hj : j = k
    · subst hj; rw [gt_same]; exact ⟨.inr h.1.symm, h.2.1⟩
    · rw [gt_other _ _ hj]; exact ih h.2.2
theorem LeO.go {ob ob' : List (Nat × Ob)} {n : Nat} (h : LeO ob n ob') {l : Nat} {x : Ob} (hl : AM.go ob' l = some x) : AM.go ob l = some x ∧ l < n ∧ x.lt n = true := by
  induction ob' with
  | nil => cases hl
  | cons p r ih =>
    obtain ⟨j, t⟩ := p
    by_cases hj : j = l
    · subst hj; rw [go_same] at hl; cases hl; exact ⟨h.1, blt_lt h.2.1.1, h.2.1.2⟩
    · rw [go_other _ _ hj] at hl; exact ih h.2.2 hl
def Env.below (E : Env) (n : Nat) : Env := { E with r := fun o => if o < n then E.r o else none, T := fun l b => l < n ∧ E.T l b }
theorem cvC_lt {E : Env} {w : World} {n : Nat} : ∀ {c : C} {u : Value}, c.lt n = true → cvC E w c u → cvC (E.below n) w c u
  | .d g d, u, _, h => h
  | .w o m, u, hl, ⟨b, c, h, hu⟩ => ⟨b, c, by rw [Env.below]; simp only; rw [if_pos (blt_lt hl)]; exact h, hu⟩
  | .s o sz off len, u, hl, ⟨A, c, b, k, h, hu⟩ => ⟨A, c, b, k, by rw [Env.below]; simp only; rw [if_pos (blt_lt hl)]; exact h, hu⟩
  | .p o k, u, hl, ⟨b, c, h, hu⟩ => ⟨b, c, by rw [Env.below]; simp only; rw [if_pos (blt_lt hl)]; exact h, hu⟩
  | .e o sz i j, u, hl, ⟨b, c, h, hu⟩ => ⟨b, c, by rw [Env.below]; simp only; rw [if_pos (blt_lt hl)]; exact h, hu⟩
  | .q g y j, u, _, h => h
  | .fn f, u, _, h => h
  | .nil, u, _, h => h
  | .any, u, _, _ => trivial
  | .r l d, u, hl, h => rdD_mono (F' := (E.below n).T l) (fun _ _ => rfl) (fun b hb => ⟨blt_lt hl, hb⟩) d u h
  | .z d, u, _, h => h
  | .zq y j, u, _, h => h
  | .wn o m, u, _, .inl h => .inl h
  | .wn o m, u, hl, .inr ⟨h0, b, c, h, hu⟩ => .inr ⟨h0, b, c, by rw [Env.below]; simp only; rw [if_pos (blt_lt hl)]; exact h, hu⟩
theorem CV_lt {E : Env} {w : World} {n : Nat} : ∀ {cs : List C} {us : List Value}, cs.all (C.lt n) = true → CV E w cs us → CV (E.below n) w cs us
  | [], [], _, _ => trivial
  | c :: cs, u :: us, hl, h => by
    simp only [List.all_cons, Bool.and_eq_true] at hl
    exact ⟨cvC_lt hl.1 h.1, CV_lt hl.2 h.2⟩
  | [], _ :: _, _, h => h.elim
  | _ :: _, [], _, h => h.elim
theorem cvV_lt {E : Env} {w : World} {n : Nat} {v : V} {u : Value} (hl : v.lt n = true) (h : cvV E w v u) : cvV (E.below n) w v u := by
  cases v with
  | c c => exact cvC_lt hl h
  | agg cs => obtain ⟨arr, hu, h⟩ := h; exact ⟨arr, hu, CV_lt hl h⟩
theorem VV_lt {E : Env} {w : World} {n : Nat} : ∀ {cs : List V} {us : List Value}, cs.all (V.lt n) = true → VV E w cs us → VV (E.below n) w cs us
  | [], [], _, _ => trivial
  | c :: cs, u :: us, hl, h => by
    simp only [List.all_cons, Bool.and_eq_true] at hl
    exact ⟨cvV_lt hl.1 h.1, VV_lt hl.2 h.2⟩
  | [], _ :: _, _, h => h.elim
  | _ :: _, [], _, h => h.elim
theorem cvT_lt {E : Env} {w : World} {n : Nat} {t : T} {u : Value} (hl : t.lt n = true) (h : cvT E w t u) : cvT (E.below n) w t u := by
  cases t with
  | v v => exact cvV_lt hl h
  | tup ts => obtain ⟨arr, hu, h⟩ := h; exact ⟨arr, hu, VV_lt hl h⟩
  | any => trivial
theorem relOb_lt {E : Env} {w : World} {n o : Nat} {ob : Ob} (ho : o < n) (hl : ob.lt n = true) (h : relOb E w o ob) : relOb (E.below n) w o ob := by
  cases ob with
  | var ty cs =>
    obtain ⟨b, c, arr, hr, hh, hc, hF⟩ := h
    exact ⟨b, c, arr, by simp only [Env.below]; rw [if_pos ho]; exact hr, hh, CV_lt hl hc, hF⟩
  | row ty sz els g m =>
    obtain ⟨b, c, arr, hr, h⟩ := h
    exact ⟨b, c, arr, by simp only [Env.below]; rw [if_pos ho]; exact hr, h⟩
  | rown ty sz els g =>
    rcases h with h | ⟨h0, b, c, arr, hr, h⟩
    · exact .inl h
    · exact .inr ⟨h0, b, c, arr, by simp only [Env.below]; rw [if_pos ho]; exact hr, h⟩
  | abs l y =>
    rcases h with h | ⟨h0, b, c, hr, h1, h2⟩
    · exact .inl h
    · exact .inr ⟨h0, b, c, by simp only [Env.below]; rw [if_pos ho]; exact hr, y.st b c _ _ w w h1 (fun k hk => ⟨blt_lt hl, hk⟩) rfl (fun _ _ => rfl), h2⟩
theorem EnvOK.below {cx : Cx} {E : Env} {w : World} (ok : EnvOK cx E w) (n : Nat) : EnvOK cx (E.below n) w := by
  have hr : ∀ o x, (E.below n).r o = some x → E.r o = some x := fun o x h => by
    simp only [Env.below] at h; split at h
    · exact h
    · cases h
  refine ⟨ok.fb, ok.gf, ok.gn, fun o b c h => ok.rb o b c (hr o _ h), fun o o' b c c' h h' => ok.inj o o' b c c' (hr _ _ h) (hr _ _ h'), ok.os, ok.tape, ok.output, ok.size, ok.block, fun o x hv h => ok.pin o x hv (hr o _ h), ok.ff, ok.gc, ⟨fun l b h => ?_, fun l l' b h h' => ok.sf.tt l l' b h.2 h'.2, fun b h => ?_, ok.sf.zs, ok.sf.ze⟩⟩
  · obtain ⟨h1, h2, h3, h4⟩ := ok.sf.tb l b h.2
    exact ⟨h1, h2, fun o c ho => h3 o c (hr o _ ho), h4⟩
  · obtain ⟨h1, h2, h3, h4⟩ := ok.sf.zc b h
    exact ⟨h1, h2, fun o c ho => h3 o c (hr o _ ho), h4⟩
theorem weak_of (h1 : LeS st.sl st'.nx st'.sl) (h2 : LeO st.ob st'.nx st'.ob) : Weak N st st' := by
  intro cx E a w hR
  refine ⟨E.below st'.nx, hR.ok.below _, fun o x h => ?_, fun o ob h => ?_, fun k => ?_, hR.dfr, hR.size, fun l b h => h.1⟩
  · simp only [Env.below] at h; split at h
    · assumption
    · cases h
  · obtain ⟨h1, h2, h3⟩ := h2.go h
    exact relOb_lt h2 h3 (hR.obs o ob h1)
  · obtain ⟨h1, h2⟩ := h1.gt k
    rcases h1 with h1 | h1
    · rw [h1]; trivial
    · rw [h1] at h2 ⊢; exact cvT_lt h2 (hR.sl k)

/-- A loop: at each round's head the state is S x, for some x of which I holds; each round lowers μ. -/
theorem awc_loop {c : Code} {σ : Type} (I : σ → Prop) (S : σ → St) (μ : σ → Nat) (x0 : σ) (i0 : I x0) (h0 : Weak N st (S x0))
    (round : ∀ x, I x → AWC P N c (S x) (thenN (fun s => ∃ x', I x' ∧ Weak N s (S x') ∧ μ x' < μ x) AQ)) : AWC P N (.loop c) st AQ := by
  intro cx E a w hR b k cs
  have key : ∀ n x, μ x = n → I x → ∀ E a w, Rel N cx E (S x) a w →
      ∃ e a' w', lift N cx AQ e a' w' ∧ Arrives P (lone (b.at a (.code c :: .inLoop c :: k)) cs w) b k cs e a' w' := by
    intro n
    induction n using Nat.strongRecOn with
    | _ n ih =>
      intro x hn hI E a w hR
      obtain ⟨e, a₁, w₁, ⟨E₁, s₁, hR₁, hq⟩, harr⟩ := round x hI cx E a w hR b (.inLoop c :: k) cs
      cases e with
      | normal =>
        obtain ⟨x', hI', hW, hlt⟩ := hq
        obtain ⟨E', hR'⟩ := hW cx E₁ a₁ w₁ hR₁
        obtain ⟨e₂, a₂, w₂, hq₂, harr₂⟩ := ih (μ x') (hn ▸ hlt) x' rfl hI' E' a₁ w₁ hR'
        exact ⟨e₂, a₂, w₂, hq₂, .of_steps (Steps.trans harr (.one step_inLoop)) harr₂⟩
      | exit id => exact ⟨_, a₁, w₁, ⟨E₁, s₁, hR₁, hq⟩, .pass (x := .inLoop c) rfl (fun _ _ => .inl (by simp)) harr⟩
      | goto l => exact ⟨_, a₁, w₁, ⟨E₁, s₁, hR₁, hq⟩, .pass (x := .inLoop c) rfl (fun _ _ => .inl (by simp)) harr⟩
      | ret => exact ⟨_, a₁, w₁, ⟨E₁, s₁, hR₁, hq⟩, .pass (x := .inLoop c) rfl (fun _ _ => .inl (by simp)) harr⟩
      | panic ch => exact ⟨_, a₁, w₁, ⟨E₁, s₁, hR₁, hq⟩, .pass (x := .inLoop c) rfl (fun _ _ => .inl (by simp)) harr⟩
      | outgrown => exact ⟨_, a₁, w₁, ⟨E₁, s₁, hR₁, hq⟩, .pass (x := .inLoop c) rfl (fun _ _ => .inl (by simp)) harr⟩
  obtain ⟨E', hR'⟩ := h0 cx E a w hR
  obtain ⟨e, a', w', hq, harr⟩ := key _ x0 rfl i0 E' a w hR'
  exact ⟨e, a', w', hq, .of_steps (.one step_loop) harr⟩
end
end Go.AM
