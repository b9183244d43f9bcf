/-
  The abstract machine, part Zu: a function walked in place of its call: it may hand back things that are described by hand.
-/
import Derived.Test.YtlpclccdbmoemaaGreatAmZt
set_option linter.unusedVariables false
namespace Go.AM
open Go.RowKit
def mlOb (f : C → Option C) : Ob → Option Ob
  | .abs l h => some (.abs l h)
  | x => rlOb f x
theorem mlOb_ok {E E' : Env} {w : World} {f : C → Option C} {l o : Nat} {x y : Ob} (h : mlOb f x = some y) (hf : ∀ c c' u, f c = some c' → cvC E w c u → cvC E' w c' u) (hr : ∀ p, E.r l = some p → E'.r o = some p) (hn : E'.n o ↔ E.n l)
    (hH : ∀ g b, E.H g b → E'.H g b) (hF : ∀ b, ¬ E.F b → ¬ E'.F b) (hT : ∀ j z, x = .abs j z → ∀ b, E.T j b → E'.T j b) (hx : relOb E w l x) : relOb E' w o y := by
  cases x with
  | abs j z =>
    cases h
    rcases hx with ⟨h1, h2⟩ | ⟨h1, b, c, k1, k2, k3⟩
    · exact .inl ⟨hn.2 h1, h2⟩
    · exact .inr ⟨fun k => h1 (hn.1 k), b, c, hr _ k1, z.st _ _ _ _ w w k2 (hT j z rfl) rfl (fun _ _ => rfl), hF b k3⟩
  | var t cs => exact rlOb_ok (x := .var t cs) h hf (fun b c _ hr' => hr _ hr') hn hH (fun b c _ _ => hF b) hx
  | row t sz els g m => exact rlOb_ok (x := .row t sz els g m) h hf (fun b c _ hr' => hr _ hr') hn hH (fun b c _ _ => hF b) hx
  | rown t sz els g => exact rlOb_ok (x := .rown t sz els g) h hf (fun b c _ hr' => hr _ hr') hn hH (fun b c _ _ => hF b) hx
/-- The things named in m, under the callee's labels. -/
def pickM (f : C → Option C) (ob : List (Nat × Ob)) : List (Nat × Nat) → Option (List (Nat × Ob))
  | [] => some []
  | (k, o) :: r => match go ob o with
    | some x => match mlOb f x, pickM f ob r with
      | some y, some ys => some ((k, y) :: ys)
      | _, _ => none
    | none => none
theorem pickM_go {f : C → Option C} {ob : List (Nat × Ob)} : ∀ {m : List (Nat × Nat)} {xs : List (Nat × Ob)} {l : Nat} {x : Ob}, pickM f ob m = some xs → go xs l = some x → ∃ o x0, look m l = some o ∧ go ob o = some x0 ∧ mlOb f x0 = some x
  | [], xs, l, x, h, hg => by simp [pickM] at h; subst h; cases hg
  | (k, o) :: r, xs, l, x, h, hg => by
    simp only [pickM] at h
    split at h
    · rename_i x0 h0
      split at h
      · rename_i y ys h1 h2
        simp at h; subst h
        by_cases e : k = l
        · subst e; rw [go_same] at hg; cases hg; exact ⟨o, x0, by simp [look], h0, h1⟩
        · rw [go_other _ _ e] at hg
          obtain ⟨o', x', a1, a2, a3⟩ := pickM_go h2 hg
          exact ⟨o', x', by simp only [look, beq_ne e]; exact a1, a2, a3⟩
      · cases h
    · cases h
/-- Things under the caller's labels. -/
def mlOs (m : List (Nat × Nat)) : List (Nat × Ob) → Option (List (Nat × Ob))
  | [] => some []
  | (k, x) :: r => match look m k, mlOb (rlC m) x, mlOs m r with
    | some o, some y, some ys => some ((o, y) :: ys)
    | _, _, _ => none
theorem mlOs_go {m : List (Nat × Nat)} (hinj : ∀ a a' b, look m a = some b → look m a' = some b → a = a') : ∀ {ys ys' : List (Nat × Ob)} {o : Nat} {y' : Ob}, mlOs m ys = some ys' → go ys' o = some y' → ∃ k y, look m k = some o ∧ go ys k = some y ∧ mlOb (rlC m) y = some y'
  | [], ys', o, y', h, hg => by simp [mlOs] at h; subst h; cases hg
  | (k, x) :: r, ys', o, y', h, hg => by
    simp only [mlOs] at h
    split at h
    · rename_i o1 y1 ys1 h1 h2 h3
      simp at h; subst h
      by_cases e : o1 = o
      · subst e; rw [go_same] at hg; cases hg; exact ⟨k, x, h1, go_same _ _ _, h2⟩
      · rw [go_other _ _ e] at hg
        obtain ⟨k', y, a1, a2, a3⟩ := mlOs_go hinj h3 hg
        have hne : k ≠ k' := fun e' => by subst e'; rw [h1] at a1; cases a1; exact e rfl
        exact ⟨k', y, a1, by rw [go_other _ _ hne]; exact a2, a3⟩
    · cases h
/-- What a caller's slot says behind the call: pointers to what is pinned, and scalars. 'pn': the pinned ones, by the caller's label. -/
def kpC (pn : List (Nat × Nat)) : C → C
  | .p o k => match look pn o with
    | some _ => .p o k
    | none => .any
  | .d _ (.i k n) => .d false (.i k n)
  | .d _ (.b b) => .d false (.b b)
  | .d _ (.str s) => .d false (.str s)
  | _ => .any
def kpT (pn : List (Nat × Nat)) : T → T
  | .v (.c c) => .v (.c (kpC pn c))
  | _ => .any
def kpS (pn : List (Nat × Nat)) : List (Nat × T) → List (Nat × T)
  | [] => []
  | (k, t) :: r => (k, kpT pn t) :: kpS pn r
theorem kpS_gt (pn : List (Nat × Nat)) : ∀ (sl : List (Nat × T)) (k : Nat), gt (kpS pn sl) k = kpT pn (gt sl k)
  | [], k => rfl
  | (j, t) :: r, k => by
    rw [kpS]
    by_cases e : j = k
    · subst e; rw [gt_same, gt_same]
    · rw [gt_other _ _ e, gt_other _ _ e]; exact kpS_gt pn r k
def memP (m : List (Nat × Nat)) (p : Nat × Nat) : Bool := m.any fun q => Nat.beq q.1 p.1 && Nat.beq q.2 p.2
theorem memP_ok {m : List (Nat × Nat)} {p : Nat × Nat} (h : memP m p = true) : p ∈ m := by
  obtain ⟨q, h1, h2⟩ := List.any_eq_true.1 h
  simp only [Bool.and_eq_true] at h2
  have a := Nat.eq_of_beq_eq_true h2.1
  have b := Nat.eq_of_beq_eq_true h2.2
  obtain ⟨q1, q2⟩ := q
  obtain ⟨p1, p2⟩ := p
  simp only at a b
  subst a; subst b; exact h1
/-- The two maps of labels (callee, caller) on the way in and on the way out. -/
def inlOK (m m' : List (Nat × Nat)) (ys : List (Nat × Ob)) (nx nx' : Nat) : Bool :=
  nodupO (m.map (·.1)) && nodupO (m.map (·.2)) && nodupO (m'.map (·.1)) && nodupO (m'.map (·.2)) &&
  m.all (fun p => nlt p.1 nx && (!rsv p.2 || rsv p.1) && (!rsp p.1 || memP m' p && match go ys p.1 with | some (.var _ _) => true | _ => false)) &&
  m'.all (fun p => nlt p.2 nx' && ((rsp p.1 && memP m p) || (!rsv p.1 && !rsv p.2)))
def absLt (n : Nat) : List (Nat × Ob) → Bool
  | [] => true
  | (_, .abs j _) :: r => nlt j n && absLt n r
  | _ :: r => absLt n r
theorem absLt_go {n k j : Nat} {z : Hid} : ∀ {ob : List (Nat × Ob)}, absLt n ob = true → go ob k = some (.abs j z) → j < n
  | [], _, h => by cases h
  | (k', x) :: r, h0, h => by
    by_cases e : k' = k
    · subst e; rw [go_same] at h; cases h
      simp only [absLt, Bool.and_eq_true] at h0; exact blt_lt h0.1
    · rw [go_other _ _ e] at h
      cases x <;> first | (simp only [absLt, Bool.and_eq_true] at h0; exact absLt_go h0.2 h) | (simp only [absLt] at h0; exact absLt_go h0 h)
def pinned (m : List (Nat × Nat)) : List (Nat × Nat) := (m.filter fun p => rsp p.1).map fun p => (p.2, p.1)
theorem o_inl {P : Program} {N N' : Nat} {d : Tmp} {ty : TypeId} {ps : String} {af : Array Edge} {gd : Option (Nat × Bool)} {f : FuncId} {fn : Func} {c : Code} {args : List Operand} {tys : Array TypeId} {sl sl' : List (Nat × T)} {ob obs2 : List (Nat × Ob)} {nx nx' : Nat} {ts ts2 : List T} {ys ys' : List (Nat × Ob)} {out out' : T} {m m' : List (Nat × Nat)} {sl0 : List (Nat × T)} {rs : List ResultVar}
    (hf : P.funcs[f]? = some fn) (hb : fn.body = some c) (hnm : (fn.name == "runtime.NumGoroutine") = false) (hN : fn.ntmps = N') (hrs : fn.results.toList = rs) (h : AWC P N' c ⟨sl0, obs2, nx⟩ (PostV N' P rs ys out []))
    (ht : opTs sl args = some ts) (ha : mapTs (rlC (inv m)) ts = some ts2) (hle : Nat.ble ts2.length N' = true) (hs0 : argW 0 ts2 = sl0) (hx : pickM (rlC (inv m)) ob m = some obs2)
    (hm : inlOK m m' ys nx nx' = true) (hj : absLt nx' ys = true) (hy : mlOs m' ys = some ys') (ho : mapT (rlC m') out = some out') (hs : kpS (pinned m) sl = sl') (hd : nlt d N = true) :
    AWO P N ⟨some d, .call ⟨.value (.func f), args.toArray, tys⟩, ty, ps, af, gd⟩ ⟨sl, ob, nx⟩ ⟨(d, out') :: sl', ys', nx'⟩ := by
  subst hs0; subst hrs; subst hs
  intro cx E a w hR
  have ok := hR.ok
  obtain ⟨t1, t2⟩ := opTs_ok ht
  simp only [inlOK, Bool.and_eq_true, List.all_eq_true, Bool.or_eq_true, Bool.not_eq_true'] at hm
  obtain ⟨⟨⟨⟨⟨hm1, hm2⟩, hm3⟩, hm4⟩, hm5⟩, hm6⟩ := hm
  have ndm1 := nodupO_ok hm1
  have ndm2 := nodupO_ok hm2
  have ndm3 := nodupO_ok hm3
  have ndm4 := nodupO_ok hm4
  have inv_of : ∀ {k o}, look m k = some o → look (inv m) o = some k := fun h => mem_look (by rw [inv_keys]; exact ndm2) (mem_inv.2 (look_mem h))
  have of_inv : ∀ {k o}, look (inv m) o = some k → look m k = some o := fun h => mem_look ndm1 (mem_inv.1 (look_mem h))
  have inv_of' : ∀ {k o}, look m' k = some o → look (inv m') o = some k := fun h => mem_look (by rw [inv_keys]; exact ndm4) (mem_inv.2 (look_mem h))
  have of_inv' : ∀ {k o}, look (inv m') o = some k → look m' k = some o := fun h => mem_look ndm3 (mem_inv.1 (look_mem h))
  -- the callee's environment
  obtain ⟨E2, hE2⟩ : ∃ E2 : Env, E2 = { E with r := fun k => match look m k with | some o => E.r o | none => none, n := fun k => match look m k with | some o => E.n o | none => False } := ⟨_, rfl⟩
  have e_r : ∀ k o, look m k = some o → E2.r k = E.r o := fun k o h => by subst hE2; simp only [h]
  have e_n : ∀ k o, look m k = some o → (E2.n k ↔ E.n o) := fun k o h => by subst hE2; simp only [h]
  have e_r' : ∀ k p, E2.r k = some p → ∃ o, look m k = some o ∧ E.r o = some p := fun k p h => by
    subst hE2
    simp only at h
    split at h
    · rename_i o h1; exact ⟨o, h1, h⟩
    · cases h
  have e_F : E2.F = E.F := by subst hE2; rfl
  have e_G : E2.G = E.G := by subst hE2; rfl
  have e_T : E2.T = E.T := by subst hE2; rfl
  have e_Z : E2.Z = E.Z := by subst hE2; rfl
  have e_H : ∀ g, E2.H g = E.H g := fun g => by cases g; exact e_F; exact e_G
  let cx2 : Cx := ⟨cx.w0, cx.W, E2.r, cx.F0, cx.Z, cx.gw, cx.G0⟩
  have ok2 : EnvOK cx2 E2 w := by
    refine ⟨by rw [e_F]; exact ok.fb, by rw [e_F, e_G]; exact ok.gf, by rw [e_G]; exact ok.gn, fun k b c h => ?_, fun k k' b c c' h h' => ?_, ok.os, ok.tape, ok.output, ok.size, ok.block, fun _ _ _ h => h, by rw [e_F]; exact ok.ff, by rw [e_F]; exact ok.gc, ⟨fun l b h => ?_, by rw [e_T]; exact ok.sf.tt, fun b h => ?_, ok.sf.zs, by rw [e_Z]; exact ok.sf.ze⟩⟩
    · obtain ⟨o, h1, h2⟩ := e_r' k _ h
      obtain ⟨h3, h4⟩ := ok.rb o b c h2
      refine ⟨h3, h4.imp id fun ⟨q1, q2⟩ => ⟨q1, ?_⟩⟩
      rcases (hm5 _ (look_mem h1)).1.2 with h | h
      · rw [h] at q2; cases q2
      · exact h
    · obtain ⟨o, h1, h2⟩ := e_r' k _ h
      obtain ⟨o', h1', h2'⟩ := e_r' k' _ h'
      have := ok.inj o o' b c c' h2 h2'; subst this
      have q1 := inv_of h1
      have q2 := inv_of h1'
      rw [q1] at q2; exact Option.some.inj q2
    · rw [e_T] at h
      obtain ⟨h1, h2, h3, h4⟩ := ok.sf.tb l b h
      exact ⟨h1, by rw [e_F]; exact h2, fun k c hk => by obtain ⟨o, _, h5⟩ := e_r' k _ hk; exact h3 o c h5, h4⟩
    · obtain ⟨h1, h2, h3, h4⟩ := ok.sf.zc b h
      exact ⟨h1, by rw [e_F]; exact h2, fun k c hk => by obtain ⟨o, _, h5⟩ := e_r' k _ hk; exact h3 o c h5, h4⟩
  have hin : ∀ c c' u, rlC (inv m) c = some c' → cvC E w c u → cvC E2 w c' u := by
    intro c c' u h hc
    cases c with
    | d g x => cases h; exact rdD_mono (fun _ _ => rfl) (fun b hb => by rw [e_H]; exact hb) _ _ hc
    | nil => cases h; exact hc
    | any => cases h; trivial
    | fn f => cases h; exact hc
    | w l n =>
      simp only [rlC] at h
      split at h
      · rename_i k h1; cases h
        obtain ⟨b, cc, q1, q2⟩ := hc
        exact ⟨b, cc, (e_r k l (of_inv h1)).trans q1, q2⟩
      · cases h
    | wn l n =>
      simp only [rlC] at h
      split at h
      · rename_i k h1; cases h
        rcases hc with ⟨q0, q1⟩ | ⟨q0, b, cc, q1, q2⟩
        · exact .inl ⟨(e_n k l (of_inv h1)).2 q0, q1⟩
        · exact .inr ⟨fun q => q0 ((e_n k l (of_inv h1)).1 q), b, cc, (e_r k l (of_inv h1)).trans q1, q2⟩
      · cases h
    | p l n =>
      simp only [rlC] at h
      split at h
      · rename_i k h1; cases h
        obtain ⟨b, cc, q1, q2⟩ := hc
        exact ⟨b, cc, (e_r k l (of_inv h1)).trans q1, q2⟩
      · cases h
    | _ => cases h
  have hTV : TV E2 w ts2 (args.map a.eval) := mapTs_ok hin ha t1 (fun x t hm => by have := hR.op x; rwa [Lk.mem t2 x t hm] at this)
  obtain ⟨v1, v2⟩ := argW_ok 0 hTV
  have hle' : ts2.length ≤ N' := Nat.le_of_ble_eq_true hle
  obtain ⟨vals, hvals⟩ : ∃ vals : Array Value, vals = (args.map a.eval).toArray := ⟨_, rfl⟩
  have hsz : vals.size = ts2.length := by rw [hvals]; simpa using v1
  have hR2 : Rel N' cx2 E2 ⟨argW 0 ts2, obs2, nx⟩ { tmps := vals ++ Array.replicate (fn.ntmps - vals.size) undef, defers := [] } w := by
    refine ⟨ok2, fun k p h => ?_, fun k x h => ?_, fun k => ?_, rfl, by simp; omega, fun l b h => by rw [e_T] at h; exact hR.td l b h⟩
    · obtain ⟨o, h1, _⟩ := e_r' k p h
      exact blt_lt (hm5 _ (look_mem h1)).1.1
    · obtain ⟨o, x0, h1, h2, h3⟩ := pickM_go hx h
      exact mlOb_ok h3 hin (fun p hp => (e_r k o h1).trans hp) (e_n k o h1) (fun g b hb => by rw [e_H]; exact hb) (fun b hb => by rw [e_F]; exact hb) (fun j z _ b hb => by rw [e_T]; exact hb) (hR.obs o x0 h2)
    · by_cases hk : k < ts2.length
      · obtain ⟨u, h3, h4⟩ := (v2 k).1 ⟨Nat.zero_le _, by omega⟩
        have : (vals ++ Array.replicate (fn.ntmps - vals.size) undef).getD k undef = u := by
          have h5 : vals[k]? = some u := by rw [hvals]; simpa using h3
          have h6 : (vals ++ Array.replicate (fn.ntmps - vals.size) undef)[k]? = some u := by rw [Array.getElem?_append_left (by omega)]; exact h5
          simp [h6]
        rw [this]; exact h4
      · have := (v2 k).2 (by omega)
        show cvT _ w (gt (argW 0 ts2) k) _
        rw [this]; trivial
  have hwp := h cx2 E2 _ w hR2
  have hcalls : Calls P f vals w fun e w' => ∃ v E', e = .returned v ∧ EnvOK cx2 E' w' ∧ cvT E' w' out v ∧ (∀ l y, go ys l = some y → relOb E' w' l y) := by
    refine calls_of_wp hf hb (wp_mono hwp ?_)
    rintro e a' w' ⟨E', s', hR', hq⟩
    have fin : (∃ s'' vs, Weak N' s' s'' ∧ ResVs P s'' fn.results.toList vs ∧ outT vs = out ∧ LoA s''.ob ys ∧ LoA s''.ob []) →
        a'.defers = [] ∧ ∃ v, (results fn a'.tmps).run P w' = .ok v w' ∧ ∃ v' E', Ending.returned v = .returned v' ∧ EnvOK cx2 E' w' ∧ cvT E' w' out v' ∧ (∀ l y, go ys l = some y → relOb E' w' l y) := by
      rintro ⟨s'', vs, hw, hres, ho, hys, _⟩
      obtain ⟨E'', hR''⟩ := hw _ _ _ _ hR'
      obtain ⟨us, k1, k2⟩ := ResVs_ok hR'' hres
      have hmm : (fn.results.mapM (resOne a'.tmps)).run P w' = .ok us.toArray w' := by
        rw [← Array.toArray_toList (xs := fn.results), List.mapM_toArray]
        simp only [Sem.run_map, k1]
        rfl
      have hrr : results fn a'.tmps = (fn.results.mapM (resOne a'.tmps)) >>= fun vs => pure (if h : vs.size = 1 then vs[0] else .tuple vs) := rfl
      have hv : ∃ v, (results fn a'.tmps).run P w' = .ok v w' ∧ cvT E'' w' out v := by
        subst ho
        match vs, us, k2 with
        | [], [], _ => exact ⟨.tuple #[], by rw [hrr]; simp [hmm], #[], rfl, trivial⟩
        | [v], [u], k2 => exact ⟨u, by rw [hrr]; simp [hmm], k2.1⟩
        | v1 :: v2 :: vs, u1 :: u2 :: us, k2 => exact ⟨.tuple (u1 :: u2 :: us).toArray, by rw [hrr]; simp [hmm], _, rfl, k2⟩
      obtain ⟨v, q1, q2⟩ := hv
      exact ⟨hR''.dfr, v, q1, v, E'', rfl, hR''.ok, q2, fun l y h => hR''.obs l y (LoA_go hys h)⟩
    cases e with
    | normal => exact fin hq
    | ret => exact fin hq
    | _ => exact hq.elim
  have hent : (callFunc f vals).run P w = .ok (.enter f vals) w := by simp [callFunc, hf, hb]; simpa using hnm
  unfold Oper.wp
  have hrun : (execOp a.eval ⟨some d, .call ⟨.value (.func f), args.toArray, tys⟩, ty, ps, af, gd⟩).run P w = .ok (.enter f vals) w := by
    subst hvals
    simp only [execOp, resolve, Act.eval, Deferred.ofValue, Sem.run_bind, Sem.run_pure, Result.andThen_ok, invoke]
    simpa using hent
  rw [hrun, Oper.upon_enter]
  refine hcalls.mono ?_
  rintro e w' ⟨v, E', rfl, ok', hv, hobs⟩
  -- back
  obtain ⟨E3, hE3⟩ : ∃ E3 : Env, E3 = { E' with r := fun o => match look (inv m') o with | some k => E'.r k | none => none, n := fun o => match look (inv m') o with | some k => E'.n k | none => False, T := fun l b => l < nx' ∧ E'.T l b } := ⟨_, rfl⟩
  have f_r : ∀ k o, look m' k = some o → E3.r o = E'.r k := fun k o h => by subst hE3; simp only [inv_of' h]
  have f_n : ∀ k o, look m' k = some o → (E3.n o ↔ E'.n k) := fun k o h => by subst hE3; simp only [inv_of' h]
  have f_r' : ∀ o p, E3.r o = some p → ∃ k, look m' k = some o ∧ E'.r k = some p := fun o p h => by
    subst hE3
    simp only at h
    split at h
    · rename_i k h1; exact ⟨k, of_inv' h1, h⟩
    · cases h
  have f_F : E3.F = E'.F := by subst hE3; rfl
  have f_G : E3.G = E'.G := by subst hE3; rfl
  have f_T : ∀ l b, E3.T l b ↔ l < nx' ∧ E'.T l b := fun l b => by subst hE3; exact Iff.rfl
  have f_Z : E3.Z = E'.Z := by subst hE3; rfl
  have f_H : ∀ g, E3.H g = E'.H g := fun g => by cases g; exact f_F; exact f_G
  have hpin : ∀ k o p, rsp k = true → (k, o) ∈ m → E'.r k = some p → E.r o = some p := fun k o p hk hm hp => by
    have h1 : E2.r k = some p := ok'.pin k p hk hp
    rwa [e_r k o (mem_look ndm1 hm)] at h1
  have ok3 : EnvOK cx E3 w' := by
    refine ⟨by rw [f_F]; exact ok'.fb, by rw [f_F, f_G]; exact ok'.gf, by rw [f_G]; exact ok'.gn, fun o b c h => ?_, fun o o' b c c' h h' => ?_, ok'.os, ok'.tape, ok'.output, ok'.size, ok'.block, fun o p ho h => ?_, by rw [f_F]; exact ok'.ff, by rw [f_F]; exact ok'.gc, ⟨fun l b h => ?_, fun l l' b h h' => ok'.sf.tt l l' b ((f_T _ _).1 h).2 ((f_T _ _).1 h').2, fun b h => ?_, ok'.sf.zs, by rw [f_Z]; exact ok'.sf.ze⟩⟩
    · obtain ⟨k, h1, h2⟩ := f_r' o _ h
      obtain ⟨h3, h4⟩ := ok'.rb k b c h2
      refine ⟨h3, ?_⟩
      rcases (hm6 _ (look_mem h1)).2 with ⟨q1, q2⟩ | ⟨q1, q2⟩
      · exact (ok.rb o b c (hpin k o _ q1 (memP_ok q2) h2)).2
      · exact .inl (h4.resolve_right (fun q => by rw [q1] at q; cases q.2))
    · obtain ⟨k, h1, h2⟩ := f_r' o _ h
      obtain ⟨k', h1', h2'⟩ := f_r' o' _ h'
      have := ok'.inj k k' b c c' h2 h2'; subst this
      rw [h1] at h1'; exact Option.some.inj h1'
    · obtain ⟨k, h1, h2⟩ := f_r' o _ h
      rcases (hm6 _ (look_mem h1)).2 with ⟨q1, q2⟩ | ⟨q1, q2⟩
      · exact ok.pin o p ho (hpin k o _ q1 (memP_ok q2) h2)
      · rw [rsv_rsp q2] at ho; cases ho
    · obtain ⟨_, h⟩ := (f_T _ _).1 h
      obtain ⟨h1, h2, h3, h4⟩ := ok'.sf.tb l b h
      exact ⟨h1, by rw [f_F]; exact h2, fun o c ho => by obtain ⟨k, _, h5⟩ := f_r' o _ ho; exact h3 k c h5, h4⟩
    · obtain ⟨h1, h2, h3, h4⟩ := ok'.sf.zc b h
      exact ⟨h1, by rw [f_F]; exact h2, fun o c ho => by obtain ⟨k, _, h5⟩ := f_r' o _ ho; exact h3 k c h5, h4⟩
  have hout : ∀ c c' u, rlC m' c = some c' → cvC E' w' c u → cvC E3 w' c' u := by
    intro c c' u h hc
    cases c with
    | d g x => cases h; exact rdD_mono (fun _ _ => rfl) (fun b hb => by rw [f_H]; exact hb) _ _ hc
    | nil => cases h; exact hc
    | any => cases h; trivial
    | fn f => cases h; exact hc
    | w l n =>
      simp only [rlC] at h
      split at h
      · rename_i k h1; cases h
        obtain ⟨b, cc, q1, q2⟩ := hc
        exact ⟨b, cc, (f_r l k h1).trans q1, q2⟩
      · cases h
    | wn l n =>
      simp only [rlC] at h
      split at h
      · rename_i k h1; cases h
        rcases hc with ⟨q0, q1⟩ | ⟨q0, b, cc, q1, q2⟩
        · exact .inl ⟨(f_n l k h1).2 q0, q1⟩
        · exact .inr ⟨fun q => q0 ((f_n l k h1).1 q), b, cc, (f_r l k h1).trans q1, q2⟩
      · cases h
    | p l n =>
      simp only [rlC] at h
      split at h
      · rename_i k h1; cases h
        obtain ⟨b, cc, q1, q2⟩ := hc
        exact ⟨b, cc, (f_r l k h1).trans q1, q2⟩
      · cases h
    | _ => cases h
  have hinj' : ∀ a a' b, look m' a = some b → look m' a' = some b → a = a' := fun a a' b h h' => by
    have h1 := inv_of' h
    rw [inv_of' h'] at h1; exact (Option.some.inj h1).symm
  refine ⟨E3, ok3, fun o p h => ?_, fun o y h => ?_, fun k => ?_, hR.dfr, by simpa [Act.put] using hR.size, fun l b h => ((f_T _ _).1 h).1⟩
  · obtain ⟨k, h1, _⟩ := f_r' o p h
    exact blt_lt (hm6 _ (look_mem h1)).1
  · obtain ⟨k, y0, h1, h2, h3⟩ := mlOs_go hinj' hy h
    refine mlOb_ok h3 hout (fun p hp => (f_r k o h1).trans hp) (f_n k o h1) (fun g b hb => by rw [f_H]; exact hb) (fun b hb => by rw [f_F]; exact hb) (fun j z e b hb => (f_T _ _).2 ⟨absLt_go hj (e ▸ h2), hb⟩) (hobs k y0 h2)
  · show cvT E3 w' (gt ((d, out') :: kpS (pinned m) sl) k) ((a.put (some d) v).tmps.getD k undef)
    rw [getD_put (by rw [hR.size]; exact blt_lt hd)]
    by_cases hk : d = k
    · subst hk; rw [gt_same, if_pos rfl]; exact mapT_ok hout ho hv
    · rw [gt_other _ _ hk, if_neg hk, kpS_gt]
      have h0 := hR.sl k
      simp only at h0
      cases hg : gt sl k with
      | tup ts => trivial
      | any => trivial
      | v vv =>
        cases vv with
        | agg cs => trivial
        | c c =>
          rw [hg] at h0
          have h0 : cvC E w c (a.tmps.getD k undef) := h0
          show cvC E3 w' (kpC (pinned m) c) _
          cases c with
          | p o j =>
            simp only [kpC]
            split
            · rename_i k' h1
              have hmem := look_mem h1
              simp only [pinned, List.mem_map, List.mem_filter, Prod.mk.injEq] at hmem
              obtain ⟨⟨p1, p2⟩, ⟨hp1, hp2⟩, hp3, hp4⟩ := hmem
              simp only at hp2 hp3 hp4
              subst hp3; subst hp4
              obtain ⟨b, cc, q1, q2⟩ := h0
              have hh := (hm5 _ hp1).2
              rcases hh with hh | ⟨hh1, hh2⟩
              · rw [hh] at hp2; cases hp2
              · split at hh2
                · rename_i t cs hgo
                  obtain ⟨b', c', arr, r1, _⟩ := hobs _ _ hgo
                  have r2 := hpin _ _ _ hp2 hp1 r1
                  rw [q1] at r2
                  have r3 := f_r _ _ (mem_look ndm3 (memP_ok hh1))
                  exact ⟨b, cc, by rw [r3, r1]; exact r2.symm, q2⟩
                · cases hh2
            · trivial
          | d g x =>
            cases x <;> first | trivial | (simp only [kpC, cvC, rdD] at h0 ⊢; exact h0)
          | _ => trivial
end Go.AM
