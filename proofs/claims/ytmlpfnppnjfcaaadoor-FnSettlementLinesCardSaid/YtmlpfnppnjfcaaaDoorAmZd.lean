/-
  The abstract machine, part Zd: functions that write scalars into what is handed to them, of which the shape alone is kept; regions of the caller's own.
-/
import Derived.Test.YtmlpfnppnjfcaaaDoorAmZb
import Derived.Test.YtmlpfnppnjfcaaaDoorAmV
set_option linter.unusedVariables false
namespace Go.AM
open Go.RowKit
def EZ (R : Nat → Prop) : Env := { r := fun _ => none, F := fun _ => False, G := fun _ => False, Z := R }
structure PastM (w w' : World) (R : Nat → Prop) : Prop where
  os : w'.os = w.os
  tape : w'.tape = w.tape
  output : w'.output = w.output
  size : w.heap.size ≤ w'.heap.size
  block : ∀ b, b < w.heap.size → ¬ R b → w'.heap[b]? = w.heap[b]?
  sim : ∀ b, R b → SimB w w' b ∧ Plain w' b
/-- The contract of a function that writes scalars into what it is handed. -/
structure FnM (P : Program) (f : FuncId) (args : List T) (n : Int) : Prop where
  enters : ∀ (vs : Array Value) (w : World), (callFunc f vs).run P w = .ok (.enter f vs) w
  calls : ∀ (R : Nat → Prop) (w : World) (vals : Array Value), (∀ b, R b → b < w.heap.size ∧ Plain w b) → TabsIn w → (∀ k ∈ seatBlk, ¬ R k) → TV (EZ R) w args vals.toList →
    Calls P f vals w fun e w' => e = .returned (.int .i64 n) ∧ PastM w w' R
theorem fn_inM {P : Program} {f : FuncId} {fn : Func} {c : Code} {N : Nat} {args : List T} {rs : List ResultVar} {n : Int} {sl0 : List (Nat × T)} (hf : P.funcs[f]? = some fn) (hb : fn.body = some c) (hnm : (fn.name == "runtime.NumGoroutine") = false) (hN : fn.ntmps = N) (hrs : fn.results.toList = rs)
    (ha : Nat.ble args.length N = true) (hs : argW 0 args = sl0) (h : AWC P N c ⟨sl0, [], 0⟩ (Post N P rs [rI n])) : FnM P f args n := by
  subst hs
  refine ⟨fun vs w => by simp [callFunc, hf, hb]; simpa using hnm, fun R w vals hR0 hT hTb hA => ?_⟩
  subst hrs
  refine calls_of_wp hf hb ?_
  obtain ⟨h1, h2⟩ := argW_ok 0 hA
  have hle : args.length ≤ N := Nat.le_of_ble_eq_true ha
  have hsz : vals.size = args.length := by simpa using h1
  have hR : Rel N ⟨w, R, fun _ => none, fun _ => True, R, ⟨hT, hTb⟩, fun _ => False⟩ (EZ R) ⟨argW 0 args, [], 0⟩ { tmps := vals ++ Array.replicate (fn.ntmps - vals.size) undef, defers := [] } w := by
    refine ⟨⟨fun _ h => h.elim, fun _ h => h.elim, fun _ h => h.elim, (fun _ _ _ h => by cases h), (fun _ _ _ _ _ h => by cases h), rfl, rfl, rfl, Nat.le_refl _, fun _ _ _ => rfl, (fun _ _ _ h => by cases h), fun _ _ => .inl trivial, fun _ h => h.elim,
      ⟨fun _ _ h => h.elim, fun _ _ _ h => h.elim, fun b h => ⟨⟨(hR0 b h).1, (hR0 b h).1, h⟩, fun h => h.elim, (fun _ _ h => by cases h), (hR0 b h).2⟩, fun b _ => .refl _ _, fun _ h => h⟩⟩, (fun _ _ h => by cases h), (fun _ _ h => by cases h), fun k => ?_, rfl, by simp; omega, fun _ _ h => h.elim⟩
    by_cases hk : k < args.length
    · obtain ⟨u, h3, h4⟩ := (h2 k).1 ⟨Nat.zero_le _, by omega⟩
      have : (vals ++ Array.replicate (fn.ntmps - vals.size) undef).getD k undef = u := by
        have h5 : vals[k]? = some u := by simpa using h3
        have h6 : (vals ++ Array.replicate (fn.ntmps - vals.size) undef)[k]? = some u := by rw [Array.getElem?_append_left (by omega)]; exact h5
        simp [h6]
      rw [this]; exact h4
    · have := (h2 k).2 (by omega)
      show cvT (EZ R) w (gt (argW 0 args) k) _
      rw [this]; trivial
  refine wp_mono (h _ (EZ R) _ w hR) ?_
  rintro e a' w' ⟨E', s', hR', hq⟩
  have fin : ∀ s', Rel N ⟨w, R, fun _ => none, fun _ => True, R, ⟨hT, hTb⟩, fun _ => False⟩ E' s' a' w' → (∃ s'', Weak N s' s'' ∧ Fin P fn.results.toList [rI n] s'') →
      a'.defers = [] ∧ ∃ v, (results fn a'.tmps).run P w' = .ok v w' ∧ Ending.returned v = .returned (.int .i64 n) ∧ PastM w w' R := by
    rintro s' hR' ⟨s'', hw, hfin⟩
    obtain ⟨E'', hR''⟩ := hw _ _ _ _ hR'
    obtain ⟨v, bs, k1, k2, k3⟩ := fin_ok hR'' hfin
    have ok := hR''.ok
    obtain ⟨_, k2⟩ := k2
    rw [rdD] at k2
    exact ⟨hR''.dfr, v, k1, by rw [k2], ⟨ok.os, ok.tape, ok.output, ok.size, ok.block, fun b hb => ⟨ok.sf.zs b hb, (ok.sf.zc b hb).2.2.2⟩⟩⟩
  cases e with
  | normal => exact fin s' hR' hq
  | ret => exact fin s' hR' hq
  | _ => exact hq.elim

/-! reading what is soft -/
section
variable {P : Program} {N : Nat} {d : Tmp} {x y : Operand} {ty : TypeId} {ps : String} {af : Array Edge} {gd : Option (Nat × Bool)} {sl : List (Nat × T)} {ob : List (Nat × Ob)} {nx : Nat} {α : Type} {enc : α → List D}
theorem n_len_z {t : TypeId} {xs : List (List D)} {e sz by_ : Nat} [ht : TySl P t e sz by_] : AWN P ⟨some d, .call ⟨.builtin .len, #[x], #[t]⟩, ty, ps, af, gd⟩ [(x, .v (.c (.z (.l xs))))] [] (tI xs.length) [] :=
  awn_pure fun E ac w hn _ => by
    have h := hn x _ (.head _)
    simp only [cvT, cvV, cvC, rsD] at h
    obtain ⟨A, c, hu, _⟩ := h
    exact ⟨_, by simp [execOp, resolve, invoke, builtin, hu, Builtin.len_, underlying, ht.u, goInt]; rfl, by simp [cvT, cvV, cvC, rdD]⟩
theorem n_index_z {t : TypeId} {e sz by_ : Nat} {g' : Bool} {kd : IntKind} {xs : List (List D)} {i : Int} {el : List D} [ht : TySl P t e sz by_] (h0 : 0 ≤ i) (he : xs[i.toNat]? = some el) (hs : ∀ e ∈ xs, e.length = sz) :
    AWN P ⟨some d, .indexAddr t x y, ty, ps, af, gd⟩ [(x, .v (.c (.z (.l xs)))), (y, .v (.c (.d g' (.i kd i))))] [] (.v (.c (.zq el 0))) [] :=
  awn_pure fun E ac w hn _ => by
    have h := hn x _ (.head _)
    simp only [cvT, cvV, cvC, rsD] at h
    obtain ⟨A, c, hu, _, h⟩ := h
    have h2 := cv_int (hn y _ (.tail _ (.head _)))
    have hl : i.toNat < xs.length := (List.getElem?_eq_some_iff.1 he).1
    rcases h with h | ⟨b, off, rfl, hb, h⟩
    · subst h; simp at he
    · exact ⟨_, by simp [execOp, hu, h2, indexAt_run (kd := kd) h0 (by omega : i < ((xs.length : Nat) : Int))]; rfl, b, off + i.toNat * sz, by simp, hb, rsLL_at h hs he⟩
theorem n_field_z {t : TypeId} {f off ft : Nat} {e : List D} {j : Nat} [h : TyF P t f off ft] : AWN P ⟨some d, .fieldAddr t x f, ty, ps, af, gd⟩ [(x, .v (.c (.zq e j)))] [] (.v (.c (.zq e (j + off)))) [] :=
  awn_pure fun E a w hn _ => by
    obtain ⟨b, k, hu, hb, hl⟩ := hn x _ (.head _)
    exact ⟨_, by simp [execOp, hu, fieldAt_run]; rfl, b, k, by simp [Nat.add_assoc], hb, hl⟩
theorem n_load_z {t : TypeId} {e : List D} {j : Nat} {xd : D} [ht : TySc P t] (hc : e[j]? = some xd) : AWN P ⟨some d, .load t x, ty, ps, af, gd⟩ [(x, .v (.c (.zq e j)))] [] (.v (.c (.z xd))) [] :=
  awn_pure fun E a w hn _ => by
    obtain ⟨b, k, hu, hb, hl⟩ := hn x _ (.head _)
    obtain ⟨u, h1, h2⟩ := rsL_at hl hc
    exact ⟨u, by simp [execOp, hu, loadAt_one h1], h2⟩
theorem rsL_list {w : World} {F : Nat → Prop} : ∀ {e : List D} {b k : Nat}, rsL w F e b k → ∃ us : List Value, us.length = e.length ∧ (∀ (j : Nat) (u : Value), us[j]? = some u → w.cell? ⟨b, k + j, none⟩ = some u) ∧ ∀ (j : Nat) (xd : D), e[j]? = some xd → ∃ u, us[j]? = some u ∧ rsD w F xd u
  | [], b, k, _ => ⟨[], rfl, by simp, by simp⟩
  | x :: e, b, k, h => by
    rw [rsL] at h
    obtain ⟨⟨u, hc, hu⟩, h⟩ := h
    obtain ⟨us, h1, h2, h3⟩ := rsL_list h
    refine ⟨u :: us, by simp [h1], fun j v hj => ?_, fun j xd hj => ?_⟩
    · cases j with
      | zero => simp at hj; subst hj; simpa using hc
      | succ j => have := h2 j v (by simpa using hj); rwa [show k + 1 + j = k + (j + 1) from by omega] at this
    · cases j with
      | zero => simp at hj; subst hj; exact ⟨u, rfl, hu⟩
      | succ j => obtain ⟨v, h4, h5⟩ := h3 j xd (by simpa using hj); exact ⟨v, by simpa using h4, h5⟩
theorem CV_map_z {E : Env} {w : World} : ∀ {e : List D} {us : List Value}, us.length = e.length → (∀ (j : Nat) (xd : D), e[j]? = some xd → ∃ u, us[j]? = some u ∧ rsD w E.Z xd u) → CV E w (e.map C.z) us
  | [], [], _, _ => trivial
  | x :: e, u :: us, hl, h => by
    obtain ⟨v, h1, h2⟩ := h 0 x rfl
    simp at h1; subst h1
    exact ⟨h2, CV_map_z (by simpa using hl) fun j xd hj => by obtain ⟨v, h3, h4⟩ := h (j + 1) xd (by simpa using hj); exact ⟨v, by simpa using h3, h4⟩⟩
  | [], _ :: _, hl, _ => by simp at hl
  | _ :: _, [], hl, _ => by simp at hl
theorem rsL_part {w : World} {F : Nat → Prop} : ∀ {e : List D} {b k : Nat} (_ : rsL w F e b k) (j n : Nat), rsL w F ((e.drop j).take n) b (k + j)
  | [], b, k, _, j, n => by simp [rsL]
  | x :: e, b, k, h, 0, 0 => by simp [rsL]
  | x :: e, b, k, h, 0, n + 1 => by
    rw [rsL] at h
    have := rsL_part h.2 0 n
    simp only [List.drop_zero, List.take_succ_cons, Nat.add_zero] at this ⊢
    rw [rsL]; exact ⟨h.1, this⟩
  | x :: e, b, k, h, j + 1, n => by
    rw [rsL] at h
    have := rsL_part h.2 j n
    simp only [List.drop_succ_cons]
    rwa [show k + 1 + j = k + (j + 1) from by omega] at this
/-- 'C.z' on a list, written out. -/
def zO : List D → Option (List C)
  | [] => some []
  | x :: xs => match zO xs with | some r => some (.z x :: r) | none => none
theorem zO_eq : ∀ {xs : List D} {cs : List C}, zO xs = some cs → cs = xs.map C.z
  | [], cs, h => by simp [zO] at h; subst h; rfl
  | x :: xs, cs, h => by
    simp only [zO] at h
    split at h
    · rename_i r h1; simp at h; subst h; rw [zO_eq h1]; rfl
    · cases h
def zPO (j n : Nat) (e : List D) : Option (List C) := match partO j n e with | some r => zO r | none => none
theorem n_load_z_agg {t : TypeId} {n : Nat} {e : List D} {j : Nat} {cs : List C} [ht : TyAg P t n] (hj : zPO j n e = some cs) :
    AWN P ⟨some d, .load t x, ty, ps, af, gd⟩ [(x, .v (.c (.zq e j)))] [] (.v (.agg cs)) [] :=
  awn_pure fun E a w hn _ => by
    simp only [zPO] at hj
    split at hj
    · rename_i r h1
      obtain ⟨rfl, hle⟩ := partO_eq h1
      rw [zO_eq hj]
      obtain ⟨b, k, hu, hb, hl⟩ := hn x _ (.head _)
      obtain ⟨us, k1, k2, k3⟩ := rsL_list (rsL_part hl j n)
      have hlen : us.length = n := by rw [k1]; simp; omega
      exact ⟨.agg us.toArray, by simp [execOp, hu, loadAt_agg hlen k2], us.toArray, rfl, by simpa using CV_map_z k1 k3⟩
    · cases hj
theorem lz {t : TypeId} {xs : List α} {e sz by_ : Nat} [TySl P t e sz by_] (hx : opT sl x = .v (.c (.z (.l (xs.map enc))))) (hN : nlt d N = true) :
    NS0 P N ⟨some d, .call ⟨.builtin .len, #[x], #[t]⟩, ty, ps, af, gd⟩ sl ob nx d (tI xs.length) ⟨d, [(x, .v (.c (.z (.l (xs.map enc)))))], [], tI xs.length, []⟩ := by
  have := ns_mk (st := ⟨sl, ob, nx⟩) (n_len_z (P := P) (d := d) (ty := ty) (ps := ps) (af := af) (gd := gd) (t := t) (xs := xs.map enc) (x := x)) rfl hN ⟨hx, trivial⟩ trivial rfl
  rwa [List.length_map] at this
theorem xzT {t : TypeId} {e sz by_ : Nat} {g' : Bool} {kd : IntKind} {xs : List α} {i : Int} {a : α} [TySl P t e sz by_] (H : ix xs i = some a) (henc : ∀ a, (enc a).length = sz) (hx : opT sl x = .v (.c (.z (.l (xs.map enc))))) (hy : opT sl y = .v (.c (.d g' (.i kd i)))) (hN : nlt d N = true) :
    NS0 P N ⟨some d, .indexAddr t x y, ty, ps, af, gd⟩ sl ob nx d (.v (.c (.zq (enc a) 0))) ⟨d, [(x, .v (.c (.z (.l (xs.map enc))))), (y, .v (.c (.d g' (.i kd i))))], [], .v (.c (.zq (enc a) 0)), []⟩ :=
  ns_mk (st := ⟨sl, ob, nx⟩) (n_index_z (ixE H).1 (ix_map enc H) (lenM henc xs)) rfl hN ⟨hx, hy, trivial⟩ trivial rfl
theorem fz {t : TypeId} {f off ft : Nat} {e : List D} {j j' : Nat} [TyF P t f off ft] (hx : opT sl x = .v (.c (.zq e j))) (hN : nlt d N = true) (hk : j + off = j') : NS0 P N ⟨some d, .fieldAddr t x f, ty, ps, af, gd⟩ sl ob nx d (.v (.c (.zq e j'))) ⟨d, [(x, .v (.c (.zq e j)))], [], .v (.c (.zq e j')), []⟩ := by
  subst hk; exact ns_mk (st := ⟨sl, ob, nx⟩) n_field_z rfl hN ⟨hx, trivial⟩ trivial rfl
theorem oz {t : TypeId} {e : List D} {j : Nat} {xd : D} [TySc P t] (hx : opT sl x = .v (.c (.zq e j))) (hN : nlt d N = true) (hc : e[j]? = some xd) :
    NS0 P N ⟨some d, .load t x, ty, ps, af, gd⟩ sl ob nx d (.v (.c (.z xd))) ⟨d, [(x, .v (.c (.zq e j)))], [], .v (.c (.z xd)), []⟩ := ns_mk (st := ⟨sl, ob, nx⟩) (n_load_z hc) rfl hN ⟨hx, trivial⟩ trivial rfl
theorem oza {t : TypeId} {n : Nat} {e : List D} {j : Nat} {cs : List C} [TyAg P t n] (hx : opT sl x = .v (.c (.zq e j))) (hN : nlt d N = true) (hc : zPO j n e = some cs) :
    NS0 P N ⟨some d, .load t x, ty, ps, af, gd⟩ sl ob nx d (.v (.agg cs)) ⟨d, [(x, .v (.c (.zq e j)))], [], .v (.agg cs), []⟩ := ns_mk (st := ⟨sl, ob, nx⟩) (n_load_z_agg hc) rfl hN ⟨hx, trivial⟩ trivial rfl
/-- Two scalars of a kind. -/
def likeD : D → C → Bool
  | .i k _, .d _ (.i k' _) => k == k'
  | .b _, .d _ (.b _) => true
  | .str _, .d _ (.str _) => true
  | _, _ => false
theorem rel_soft {cx : Cx} {E : Env} {st : St} {a : Act} {w w' : World} (hR : Rel N cx E st a w) (hp : PastM w w' E.Z) : Rel N cx E st a w' := by
  have hz : ∀ b, E.Z b → ¬ E.F b := fun b h => (hR.ok.sf.zb b h).2.1
  have hHn : ∀ g b, E.H g b → ¬ E.Z b := fun g b h hb => by cases g; exact hz b hb h; exact hz b hb (hR.ok.gf b h)
  have hrn : ∀ o b c, E.r o = some (b, c) → ¬ E.Z b := fun o b c h hb => (hR.ok.sf.zb b hb).2.2.1 o c h
  have htn : ∀ l b, E.T l b → ¬ E.Z b := fun l b h hb => by have h1 := (hR.ok.sf.tb l b h).1.2; have h2 := (hR.ok.sf.zb b hb).1.1; omega
  have hk : Keeps E w E w' := ⟨fun _ _ h => h, fun _ _ h => h, fun g b h => hp.block b (hR.ok.hb h) (hHn g b h), fun l b h => ⟨h, hp.block b (hR.ok.sf.tb l b h).1.1 (htn l b h)⟩, fun b h => ⟨h, (hp.sim b h).1⟩, rfl⟩
  have hsz := hp.size
  refine ⟨⟨fun b h => by have := hR.ok.fb b h; omega, hR.ok.gf, hR.ok.gn, fun o b c h => ⟨by have := (hR.ok.rb o b c h).1; omega, (hR.ok.rb o b c h).2⟩, hR.ok.inj, hp.os.trans hR.ok.os, hp.tape.trans hR.ok.tape, hp.output.trans hR.ok.output, by have := hR.ok.size; omega, fun b h hW => ?_, hR.ok.pin, hR.ok.ff, fun b h h' => (hR.ok.gc b h h').of_eq (hp.block b (hR.ok.fb b h) (hHn false b h)), ?_⟩, hR.dom, fun o x h => ?_, fun k => cvT_keeps hk (hR.sl k), hR.dfr, hR.size, hR.td⟩
  · rw [hp.block b (by have := hR.ok.size; omega) (fun hz => hW (hR.ok.sf.zb b hz).1.2.2)]; exact hR.ok.block b h hW
  · refine ⟨fun l b h => ?_, hR.ok.sf.tt, fun b h => ?_, fun b h => ?_, hR.ok.sf.ze⟩
    · obtain ⟨h1, h2, h3, h4⟩ := hR.ok.sf.tb l b h
      exact ⟨⟨by omega, h1.2⟩, h2, h3, h4.of_eq (hp.block b h1.1 (htn l b h))⟩
    · obtain ⟨h1, h2, h3, h4⟩ := hR.ok.sf.zc b h
      refine ⟨⟨h1.1, by omega, h1.2.2⟩, h2, h3, ?_⟩
      by_cases hb : E.Z b
      · exact (hp.sim b hb).2
      · exact h4.of_eq (hp.block b h1.2.1 hb)
    · refine (hR.ok.sf.zs b h).trans ?_
      by_cases hb : E.Z b
      · exact (hp.sim b hb).1
      · exact .of_eq (hp.block b (hR.ok.sf.zc b h).1.2.1 hb)
  · exact relOb_keeps hk (fun b c h' => hp.block b (hR.ok.rb o b c h').1 (hrn o b c h')) (fun _ _ _ h => h) (hR.obs o x h)
/-- A store into what is soft. -/
theorem stz {t : TypeId} {e : List D} {j : Nat} {xd : D} {c : C} [ht : TyN P t 1] (hx : opT sl x = .v (.c (.zq e j))) (hy : opT sl y = .v (.c c)) (hc : e[j]? = some xd) (hl : likeD xd c = true) : AWO P N ⟨none, .store t x y, ty, ps, af, gd⟩ ⟨sl, ob, nx⟩ ⟨sl, ob, nx⟩ := by
  intro cx E a w hR
  have h1 := hR.op x; rw [hx] at h1
  have h2 := hR.op y; rw [hy] at h2
  obtain ⟨b, k, hu, hb, hrs⟩ := h1
  obtain ⟨u, hcell, hud⟩ := rsL_at hrs hc
  have hsim : simV u (a.eval y) ∧ (a.eval y).cells = #[a.eval y] ∧ (a.eval y).oneCell' = true := by
    cases xd with
    | i kd n =>
      cases c with
      | d g z =>
        cases z with
        | i kd' n' =>
          simp [likeD] at hl; subst hl
          have h2 : a.eval y = .int kd n' := by simpa [cvT, cvV, cvC, rdD] using h2
          rw [rsD] at hud
          obtain ⟨m, rfl⟩ := hud
          rw [h2]; exact ⟨.inr (.inl ⟨_, _, _, rfl, rfl⟩), rfl, rfl⟩
        | _ => simp [likeD] at hl
      | _ => simp [likeD] at hl
    | b n =>
      cases c with
      | d g z =>
        cases z with
        | b n' =>
          have h2 : a.eval y = .bool n' := by simpa [cvT, cvV, cvC, rdD] using h2
          rw [rsD] at hud
          obtain ⟨m, rfl⟩ := hud
          rw [h2]; exact ⟨.inr (.inr (.inl ⟨_, _, rfl, rfl⟩)), rfl, rfl⟩
        | _ => simp [likeD] at hl
      | _ => simp [likeD] at hl
    | str n =>
      cases c with
      | d g z =>
        cases z with
        | str n' =>
          have h2 : a.eval y = .string n' := by simpa [cvT, cvV, cvC, rdD] using h2
          rw [rsD] at hud
          obtain ⟨m, rfl⟩ := hud
          rw [h2]; exact ⟨.inr (.inr (.inr ⟨_, _, rfl, rfl⟩)), rfl, rfl⟩
        | _ => simp [likeD] at hl
      | _ => simp [likeD] at hl
    | l xs => cases c <;> simp [likeD] at hl
  obtain ⟨hs1, hs2, hs3⟩ := hsim
  obtain ⟨arr, vt, hh⟩ := (hR.ok.sf.zb b hb).2.2.2
  have hlt : k + j < arr.size := by
    rw [cell_var hh] at hcell
    rcases Nat.lt_or_ge (k + j) arr.size with h | h
    · exact h
    · rw [Array.getElem?_eq_none h] at hcell; cases hcell
  have hrun := storeAt_run (P := P) (t := t) (n := 1) (b := b) (k := k + j) (u := a.eval y) (w := w) (by rw [hs2]; rfl) (by rw [hs2]; simpa using hs3) hh (by omega)
  unfold Oper.wp
  simp only [execOp, hu, Sem.run_bind, hrun, Result.andThen_ok, Sem.run_pure, Oper.upon_skip, Act.put]
  refine ⟨E, rel_soft hR ⟨rfl, rfl, rfl, by simp, fun k' _ hk' => setRow_other _ _ _ _ (fun e => hk' (e ▸ hb)), fun b' hb' => ?_⟩⟩
  by_cases hbb : b' = b
  · subst hbb
    refine ⟨fun i v hv => ?_, _, _, setRow_same _ hh⟩
    rw [cell_var hh] at hv hcell
    rw [cell_var (setRow_same _ hh)]
    have hg := getElem?_splice (us := (a.eval y).cells.toList) (vs := arr.toList) (k := k + j) (n := 1) (by rw [hs2]; rfl) (by simp; omega) i
    have hg' : ((arr.toList.take (k + j) ++ (a.eval y).cells.toList ++ arr.toList.drop (k + j + 1)).toArray)[i]? = if k + j ≤ i ∧ i < k + j + (a.eval y).cells.toList.length then (a.eval y).cells.toList[i - (k + j)]? else arr.toList[i]? := by
      simpa using hg
    rw [hg', hs2]
    by_cases hi : i = k + j
    · subst hi
      rw [hcell] at hv; cases hv
      exact ⟨a.eval y, by simp, hs1⟩
    · refine ⟨v, ?_, .inl rfl⟩
      rw [if_neg (by simp; omega)]
      simpa using hv
  · exact ⟨.of_eq (setRow_other _ _ _ _ hbb), (hR.ok.sf.zb b' hb').2.2.2.of_eq (setRow_other _ _ _ _ hbb)⟩
/-- What a callee may be handed of it. -/
def zfC : C → Bool
  | .z _ => true
  | .d _ (.i _ _) | .d _ (.b _) | .d _ (.str _) => true
  | _ => false
def zfCs : List C → Bool
  | [] => true
  | c :: cs => zfC c && zfCs cs
def zfTs : List T → Bool
  | [] => true
  | .v (.c c) :: ts => zfC c && zfTs ts
  | .v (.agg cs) :: ts => zfCs cs && zfTs ts
  | _ => false
theorem zfC_ok {E : Env} {w : World} {c : C} {u : Value} (h : zfC c = true) (hc : cvC E w c u) : cvC (EZ E.Z) w c u := by
  cases c with
  | z x => exact hc
  | d g x => cases x <;> first | (simp [zfC] at h; done) | (simpa [cvC, rdD] using hc)
  | _ => simp [zfC] at h
theorem zfCs_ok {E : Env} {w : World} : ∀ {cs : List C} {us : List Value}, zfCs cs = true → CV E w cs us → CV (EZ E.Z) w cs us
  | [], [], _, _ => trivial
  | c :: cs, u :: us, h, hc => by
    simp only [zfCs, Bool.and_eq_true] at h
    exact ⟨zfC_ok h.1 hc.1, zfCs_ok h.2 hc.2⟩
  | [], _ :: _, _, hc => hc.elim
  | _ :: _, [], _, hc => hc.elim
theorem zfTs_ok {E : Env} {w : World} {a : Act} : ∀ {ts : List T} {args : List Operand}, zfTs ts = true → ts.length = args.length → (∀ x t, (x, t) ∈ args.zip ts → cvT E w t (a.eval x)) → TV (EZ E.Z) w ts (args.map a.eval)
  | [], [], _, _, _ => trivial
  | t :: ts, y :: args, h, hl, hn => by
    have h0 := hn y t (by simp)
    have rest := fun hz => zfTs_ok (ts := ts) (args := args) hz (by simpa using hl) (fun x t hm => hn x t (by simp [hm]))
    match t, h, h0 with
    | .v (.c c), h, h0 =>
      simp only [zfTs, Bool.and_eq_true] at h
      exact ⟨zfC_ok h.1 h0, rest h.2⟩
    | .v (.agg cs), h, h0 =>
      simp only [zfTs, Bool.and_eq_true] at h
      obtain ⟨arr, hu, hc⟩ := h0
      exact ⟨⟨arr, hu, zfCs_ok h.1 hc⟩, rest h.2⟩
    | .tup _, h, _ => simp [zfTs] at h
    | .any, h, _ => simp [zfTs] at h
  | [], _ :: _, _, hl, _ => by simp at hl
  | _ :: _, [], _, hl, _ => by simp at hl
/-- A call of such a function, within such a function. -/
theorem cz {f : FuncId} {args : List Operand} {tys : Array TypeId} {ts : List T} {n : Int} (ht : opTs sl args = some ts) (hF : FnM P f ts n) (hz : zfTs ts = true) (hN : nlt d N = true) :
    AWO P N ⟨some d, .call ⟨.value (.func f), args.toArray, tys⟩, ty, ps, af, gd⟩ ⟨sl, ob, nx⟩ ⟨(d, tI n) :: sl, ob, nx⟩ := by
  intro cx E a w hR
  obtain ⟨t1, t2⟩ := opTs_ok ht
  have hA := zfTs_ok (a := a) hz t1 (fun x t hm => by have := hR.op x; rwa [Lk.mem t2 x t hm] at this)
  have hc := hF.calls E.Z w (args.map a.eval).toArray (fun b h => ⟨(hR.ok.sf.zb b h).1.2.1, (hR.ok.sf.zb b h).2.2.2⟩) hR.ok.tabs (fun k hk h => cx.gw.2 k hk (hR.ok.sf.zb _ h).1.2.2) (by simpa using hA)
  have hent := hF.enters (args.map a.eval).toArray w
  unfold Oper.wp
  have hrun : (execOp a.eval ⟨some d, .call ⟨.value (.func f), args.toArray, tys⟩, ty, ps, af, gd⟩).run P w = .ok (.enter f (args.map a.eval).toArray) w := by
    simp only [execOp, resolve, Act.eval, Deferred.ofValue, Sem.run_bind, Sem.run_pure, Result.andThen_ok, invoke]
    simpa using hent
  rw [hrun, Oper.upon_enter]
  refine hc.mono ?_
  rintro e w' ⟨rfl, hp⟩
  have hR' := rel_soft hR hp
  refine ⟨E, hR'.ok, hR'.dom, hR'.obs, fun k => ?_, hR'.dfr, by simpa [Act.put] using hR'.size, hR'.td⟩
  rw [getD_put (by rw [hR'.size]; exact blt_lt hN)]
  by_cases hk : d = k
  · subst hk; rw [gt_same, if_pos rfl]; simp [cvT, cvV, cvC, rdD]
  · rw [gt_other _ _ hk, if_neg hk]; exact hR'.sl k
/-! regions of the caller's own -/
/-- A result as a region's data; what must be equal for that. -/
def rgC (l : Nat) : RC → Option (C × List (Nat × Nat))
  | .d (.l xs) => some (.r l (.l xs), [])
  | .d x => some (.d false x, [])
  | .own _ _ els n => some (.r l (.l els), [(els.length, n)])
  | .nil => some (.nil, [])
def rgCs (l : Nat) : List RC → Option (List C × List (Nat × Nat))
  | [] => some ([], [])
  | r :: rs => match rgC l r, rgCs l rs with
    | some (c, e), some (cs, es) => some (c :: cs, e ++ es)
    | _, _ => none
def rgV (l : Nat) : List RV → Option (V × List (Nat × Nat))
  | [.c r] => match rgC l r with | some (c, e) => some (.c c, e) | none => none
  | [.agg rs] => match rgCs l rs with | some (c, e) => some (.agg c, e) | none => none
  | _ => none
def Env.reg (E : Env) (l : Nat) (R : Nat → Prop) : Env := { E with T := fun k b => (k = l ∧ R b) ∨ (k ≠ l ∧ E.T k b) }
theorem rgC_ok {E : Env} {w : World} {G R : Nat → Prop} {base l : Nat} {r : RC} {c : C} {e : List (Nat × Nat)} {u : Value} {bs : List (Nat × Nat)} (h : rgC l r = some (c, e)) (he : Eqs e) (hr : rcR w G base r u bs) (hG : ∀ b, G b → R b) (hbs : ∀ b c arr t, (b, c) ∈ bs → w.heap[b]? = some (.cells arr t (0, 0)) → R b) : cvC (E.reg l R) w c u := by
  have sub : ∀ b, R b → (E.reg l R).T l b := fun b hb => .inl ⟨rfl, hb⟩
  cases r with
  | d x =>
    obtain ⟨_, hr⟩ := hr
    cases x with
    | l xs => simp [rgC] at h; obtain ⟨rfl, rfl⟩ := h; exact rdD_mono (fun _ _ => rfl) (fun b hb => sub b (hG b hb)) _ _ hr
    | i k n => simp [rgC] at h; obtain ⟨rfl, rfl⟩ := h; simpa [cvC, rdD] using hr
    | b n => simp [rgC] at h; obtain ⟨rfl, rfl⟩ := h; simpa [cvC, rdD] using hr
    | str n => simp [rgC] at h; obtain ⟨rfl, rfl⟩ := h; simpa [cvC, rdD] using hr
  | own t sz els n =>
    simp [rgC] at h; obtain ⟨rfl, rfl⟩ := h
    obtain ⟨b, cc, arr, rfl, rfl, hh, ha, hlc, hmx, hes, hrd, hgb, hbb⟩ := hr
    have hn : els.length = n := he.1
    subst hn
    simp only [cvC]
    rw [rdD]
    exact ⟨_, _, rfl, hlc, .inr ⟨b, 0, rfl, sub b (hbs b cc arr t (List.mem_singleton.2 rfl) hh), rdLL_mono' (fun _ _ => rfl) (fun b hb => sub b (hG b hb)) rfl _ _ hrd⟩⟩
  | nil => simp [rgC] at h; obtain ⟨rfl, rfl⟩ := h; exact hr.2
theorem rgCs_ok {E : Env} {w : World} {G R : Nat → Prop} {base l : Nat} : ∀ {rs : List RC} {cs : List C} {e : List (Nat × Nat)} {us : List Value} {bs : List (Nat × Nat)}, rgCs l rs = some (cs, e) → Eqs e → rcsR w G base rs us bs → (∀ b, G b → R b) → (∀ b c arr t, (b, c) ∈ bs → w.heap[b]? = some (.cells arr t (0, 0)) → R b) → CV (E.reg l R) w cs us
  | [], cs, e, us, bs, h, he, hr, hG, hbs => by
    simp [rgCs] at h; obtain ⟨rfl, rfl⟩ := h
    cases us with
    | nil => trivial
    | cons _ _ => exact hr.elim
  | r :: rs, cs, e, us, bs, h, he, hr, hG, hbs => by
    simp only [rgCs] at h
    split at h
    · rename_i c e1 cs' e2 h1 h2
      simp at h; obtain ⟨rfl, rfl⟩ := h
      obtain ⟨g1, g2⟩ := Eqs_append he
      cases us with
      | nil => exact hr.elim
      | cons u us =>
        obtain ⟨b1, b2, rfl, hr1, hr2⟩ := hr
        exact ⟨rgC_ok h1 g1 hr1 hG (fun b c arr t hm => hbs b c arr t (by simp [hm])), rgCs_ok h2 g2 hr2 hG (fun b c arr t hm => hbs b c arr t (by simp [hm]))⟩
    · cases h
theorem rgV_ok {E : Env} {w : World} {G R : Nat → Prop} {base l : Nat} {rs : List RV} {v : V} {e : List (Nat × Nat)} {u : Value} {bs : List (Nat × Nat)} (h : rgV l rs = some (v, e)) (he : Eqs e) (hr : resR w G base rs u bs) (hG : ∀ b, G b → R b) (hbs : ∀ b c arr t, (b, c) ∈ bs → w.heap[b]? = some (.cells arr t (0, 0)) → R b) : cvV (E.reg l R) w v u := by
  match rs, h, hr with
  | [.c r], h, hr =>
    simp only [rgV] at h
    split at h
    · rename_i c e1 h1; simp at h; obtain ⟨rfl, rfl⟩ := h; exact rgC_ok h1 he hr hG hbs
    · cases h
  | [.agg r], h, hr =>
    simp only [rgV] at h
    split at h
    · rename_i c e1 h1; simp at h; obtain ⟨rfl, rfl⟩ := h
      obtain ⟨arr, hu, hr⟩ := hr
      exact ⟨arr, hu, rgCs_ok h1 he hr hG hbs⟩
    · cases h
  | [], h, _ => simp [rgV] at h
  | _ :: _ :: _, h, _ => simp [rgV] at h
/-- A call whose result is a region of its own. -/
theorem car {f : FuncId} {args : List Operand} {tys : Array TypeId} {ts : List T} {nob : List (Nat × Ob)} {avs : List AV} {eqs e2 : List (Nat × Nat)} {res : List RV} {v : V} {n : Nat}
    (ht : opTs sl args = some ts) (hp : pickO ob (labTs ts) = some nob) (ha : tsdatR nob ts = some (avs, eqs)) (hF : Fn P f avs res) (he : Eqs eqs) (hi : rgV nx res = some (v, e2)) (he2 : Eqs e2) (hN : nlt d N = true) (hn : nx + 1 = n) :
    AWO P N ⟨some d, .call ⟨.value (.func f), args.toArray, tys⟩, ty, ps, af, gd⟩ ⟨sl, ob, nx⟩ ⟨(d, .v v) :: sl, ob, n⟩ := by
  subst hn
  intro cx E a w hR
  obtain ⟨t1, t2⟩ := opTs_ok ht
  have hob : ∀ l x, go nob l = some x → relOb E w l x := fun l x h => hR.obs l x (Lo.mem (pickO_Lo hp) l x (go_mem h))
  have hA := tsdatR_ok (a := a) hR.ok hob ha he t1 (fun x t hm => by have := hR.op x; rwa [Lk.mem t2 x t hm] at this)
  have hFb : ∀ b, callR E nob b → b < w.heap.size := by
    rintro b ((h | ⟨l, x, c, h1, h2⟩) | ⟨l, h⟩)
    · exact hR.ok.fb b h
    · exact (hR.ok.rb l b c h2).1
    · exact (hR.ok.sf.tb l b h).1.1
  have hc := hF.calls (callR E nob) w (args.map a.eval).toArray hFb hR.ok.tabs (by simpa using hA)
  have hent := hF.enters (args.map a.eval).toArray w
  unfold Oper.wp
  have hrun : (execOp a.eval ⟨some d, .call ⟨.value (.func f), args.toArray, tys⟩, ty, ps, af, gd⟩).run P w = .ok (.enter f (args.map a.eval).toArray) w := by
    simp only [execOp, resolve, Act.eval, Deferred.ofValue, Sem.run_bind, Sem.run_pure, Result.andThen_ok, invoke]
    simpa using hent
  rw [hrun, Oper.upon_enter]
  refine hc.mono ?_
  rintro e w' ⟨u, G, bs, rfl, hpa, hG, hres, hnd⟩
  have hsz := hpa.size
  have hws := hR.ok.size
  let R : Nat → Prop := fun b => w.heap.size ≤ b ∧ b < w'.heap.size ∧ Plain w' b
  have hbs := resR_bs hres
  have hval := rgV_ok (E := E) (R := R) hi he2 hres hG (fun b c arr t hm hh => ⟨(hbs _ hm).1, (hbs _ hm).2, arr, t, hh⟩)
  have hold : ∀ b, b < w.heap.size → w'.heap[b]? = w.heap[b]? := fun b hb => hpa.block b hb (fun h => h)
  have htl : ∀ l b, E.T l b → l ≠ nx := fun l b h e => by have := hR.td l b h; simp at this; omega
  have hk : Keeps E w (E.reg nx R) w' := ⟨fun _ _ h => h, fun _ _ h => h, fun g b h => hold b (hR.ok.hb h), fun l b h => ⟨.inr ⟨htl l b h, h⟩, hold b (hR.ok.sf.tb l b h).1.1⟩, fun b h => ⟨h, .of_eq (hold b (hR.ok.sf.zb b h).1.2.1)⟩, rfl⟩
  refine ⟨E.reg nx R, ⟨fun b h => by have := hR.ok.fb b h; omega, hR.ok.gf, hR.ok.gn, fun o b c h => ⟨by have := (hR.ok.rb o b c h).1; omega, (hR.ok.rb o b c h).2⟩, hR.ok.inj, hpa.os.trans hR.ok.os, hpa.tape.trans hR.ok.tape, hpa.output.trans hR.ok.output, by omega, fun b h hW => by rw [hold b (by omega)]; exact hR.ok.block b h hW, hR.ok.pin, hR.ok.ff, fun b h h' => (hR.ok.gc b h h').of_eq (hold b (hR.ok.fb b h)), ?_⟩, fun o x h => Nat.lt_succ_of_lt (hR.dom o x h), fun o x h => ?_, fun k => ?_, hR.dfr, by simpa [Act.put] using hR.size, fun l b h => ?_⟩
  · refine ⟨fun l b h => ?_, fun l l' b h h' => ?_, fun b h => ?_, fun b h => ?_, hR.ok.sf.ze⟩
    · rcases h with ⟨_, h1, h2, h3⟩ | ⟨_, h⟩
      · refine ⟨⟨h2, by omega⟩, fun hf => by have := hR.ok.fb b hf; omega, fun o c ho => by have := (hR.ok.rb o b c ho).1; omega, h3⟩
      · obtain ⟨h1, h2, h3, h4⟩ := hR.ok.sf.tb l b h
        exact ⟨⟨by omega, h1.2⟩, h2, h3, h4.of_eq (hold b h1.1)⟩
    · rcases h with ⟨rfl, h1, _⟩ | ⟨_, h⟩ <;> rcases h' with ⟨rfl, h1', _⟩ | ⟨_, h'⟩
      · rfl
      · have := (hR.ok.sf.tb _ _ h').1.1; omega
      · have := (hR.ok.sf.tb _ _ h).1.1; omega
      · exact hR.ok.sf.tt _ _ _ h h'
    · obtain ⟨h1, h2, h3, h4⟩ := hR.ok.sf.zc b h
      exact ⟨⟨h1.1, by omega, h1.2.2⟩, h2, h3, h4.of_eq (hold b h1.2.1)⟩
    · exact (hR.ok.sf.zs b h).trans (.of_eq (hold b (hR.ok.sf.zc b h).1.2.1))
  · exact relOb_keeps hk (fun b c h' => hold b (hR.ok.rb o b c h').1) (fun _ _ _ h => h) (hR.obs o x h)
  · rw [getD_put (by rw [hR.size]; exact blt_lt hN)]
    by_cases hk' : d = k
    · subst hk'; rw [gt_same, if_pos rfl]; exact hval
    · rw [gt_other _ _ hk', if_neg hk']; exact cvT_keeps hk (hR.sl k)
  · rcases h with ⟨e, _⟩ | ⟨_, h⟩
    · show l < nx + 1; omega
    · have := hR.td l b h; show l < nx + 1; simp at this; omega
/-! a region is given away -/
def C.hasR (l : Nat) : C → Bool
  | .r k _ => Nat.beq k l
  | _ => false
def hasRs (l : Nat) : List C → Bool
  | [] => false
  | c :: cs => c.hasR l || hasRs l cs
def V.hasR (l : Nat) : V → Bool
  | .c x => x.hasR l
  | .agg xs => hasRs l xs
def hasRVs (l : Nat) : List V → Bool
  | [] => false
  | v :: vs => v.hasR l || hasRVs l vs
def T.hasR (l : Nat) : T → Bool
  | .v x => x.hasR l
  | .tup xs => hasRVs l xs
  | .any => false
def dropS (l : Nat) : List (Nat × T) → Option (List (Nat × T))
  | [] => some []
  | (k, t) :: r => match dropS l r with
    | some r' => match t.hasR l with
      | true => some ((k, .any) :: r')
      | false => some ((k, t) :: r')
    | none => none
def noR (l : Nat) : List (Nat × Ob) → Bool
  | [] => true
  | (_, .var _ cs) :: r => !hasRs l cs && noR l r
  | (_, .row ..) :: r => noR l r
  | (_, .rown ..) :: r => noR l r
theorem dropS_gt {l : Nat} : ∀ {sl sl' : List (Nat × T)}, dropS l sl = some sl' → ∀ k, gt sl' k = .any ∨ (gt sl' k = gt sl k ∧ (gt sl k).hasR l = false)
  | [], sl', h, k => by simp [dropS] at h; subst h; exact .inl rfl
  | (j, t) :: r, sl', h, k => by
    simp only [dropS] at h
    split at h
    · rename_i r' h1
      have ih := dropS_gt h1 k
      split at h
      · simp at h; subst h
        by_cases hj : j = k
        · subst hj; left; rw [gt_same]
        · rw [gt_other _ _ hj, gt_other _ _ hj]; exact ih
      · rename_i ht
        simp at h; subst h
        by_cases hj : j = k
        · subst hj; right; rw [gt_same, gt_same]; exact ⟨rfl, ht⟩
        · rw [gt_other _ _ hj, gt_other _ _ hj]; exact ih
    · cases h
theorem noR_go {l : Nat} : ∀ {ob : List (Nat × Ob)}, noR l ob = true → ∀ {o ty cs}, go ob o = some (.var ty cs) → hasRs l cs = false
  | [], _, o, ty, cs, h => by cases h
  | (j, .var t c) :: r, hn, o, ty, cs, h => by
    simp only [noR, Bool.and_eq_true, Bool.not_eq_true'] at hn
    by_cases hj : j = o
    · subst hj; rw [go_same] at h; cases h; exact hn.1
    · rw [go_other _ _ hj] at h; exact noR_go hn.2 h
  | (j, .row ..) :: r, hn, o, ty, cs, h => by
    simp only [noR] at hn
    by_cases hj : j = o
    · subst hj; rw [go_same] at h; cases h
    · rw [go_other _ _ hj] at h; exact noR_go hn h
  | (j, .rown ..) :: r, hn, o, ty, cs, h => by
    simp only [noR] at hn
    by_cases hj : j = o
    · subst hj; rw [go_same] at h; cases h
    · rw [go_other _ _ hj] at h; exact noR_go hn h
/-- All is kept but region l. -/
structure KeepsR (l : Nat) (E : Env) (w : World) (E' : Env) (w' : World) : Prop where
  r : ∀ o x, E.r o = some x → E'.r o = some x
  H : ∀ g b, E.H g b → E'.H g b
  heap : ∀ g b, E.H g b → w'.heap[b]? = w.heap[b]?
  T : ∀ k b, k ≠ l → E.T k b → E'.T k b ∧ w'.heap[b]? = w.heap[b]?
  Z : ∀ b, E.Z b → E'.Z b ∧ SimB w w' b
  n : E'.n = E.n
theorem cvC_kr {l : Nat} {E E' : Env} {w w' : World} (x : KeepsR l E w E' w') : ∀ {c : C} {u : Value}, c.hasR l = false → cvC E w c u → cvC E' w' c u
  | .d g d, u, _, h => rdD_mono (x.heap g) (x.H g) d u h
  | .w o n, u, _, ⟨b, c, h, hu⟩ => ⟨b, c, x.r _ _ h, hu⟩
  | .s o sz off len, u, _, ⟨A, c, b, k, h, hu⟩ => ⟨A, c, b, k, x.r _ _ h, hu⟩
  | .p o k, u, _, ⟨b, c, h, hu⟩ => ⟨b, c, x.r _ _ h, hu⟩
  | .e o sz i j, u, _, ⟨b, c, h, hu⟩ => ⟨b, c, x.r _ _ h, hu⟩
  | .q g y j, u, _, ⟨b, k, hu, hb, h⟩ => ⟨b, k, hu, x.H g b hb, rdL_mono (x.heap g) (x.H g) y b k hb h⟩
  | .fn f, u, _, h => h
  | .nil, u, _, h => h
  | .any, u, _, _ => trivial
  | .r k d, u, hl, h => rdD_mono (fun b hb => (x.T k b (beqF hl) hb).2) (fun b hb => (x.T k b (beqF hl) hb).1) d u h
  | .z d, u, _, h => rsD_mono (fun b hb => (x.Z b hb).2) (fun b hb => (x.Z b hb).1) d u h
  | .zq y j, u, _, ⟨b, k, hu, hb, h⟩ => ⟨b, k, hu, (x.Z b hb).1, rsL_mono (fun b hb => (x.Z b hb).2) (fun b hb => (x.Z b hb).1) y b k hb h⟩
  | .wn l n, u, _, .inl ⟨h1, h2⟩ => .inl ⟨by rw [x.n]; exact h1, h2⟩
  | .wn l n, u, _, .inr ⟨h1, b, c, h, hu⟩ => .inr ⟨by rw [x.n]; exact h1, b, c, x.r _ _ h, hu⟩
theorem CV_kr {l : Nat} {E E' : Env} {w w' : World} (x : KeepsR l E w E' w') : ∀ {cs : List C} {us : List Value}, hasRs l cs = false → CV E w cs us → CV E' w' cs us
  | [], [], _, _ => trivial
  | c :: cs, u :: us, h, hc => by
    simp only [hasRs, Bool.or_eq_false_iff] at h
    exact ⟨cvC_kr x h.1 hc.1, CV_kr x h.2 hc.2⟩
  | [], _ :: _, _, h => h.elim
  | _ :: _, [], _, h => h.elim
theorem cvV_kr {l : Nat} {E E' : Env} {w w' : World} (x : KeepsR l E w E' w') {v : V} {u : Value} (hl : v.hasR l = false) (h : cvV E w v u) : cvV E' w' v u := by
  cases v with
  | c c => exact cvC_kr x hl h
  | agg cs => obtain ⟨arr, hu, h⟩ := h; exact ⟨arr, hu, CV_kr x hl h⟩
theorem VV_kr {l : Nat} {E E' : Env} {w w' : World} (x : KeepsR l E w E' w') : ∀ {cs : List V} {us : List Value}, hasRVs l cs = false → VV E w cs us → VV E' w' cs us
  | [], [], _, _ => trivial
  | c :: cs, u :: us, h, hc => by
    simp only [hasRVs, Bool.or_eq_false_iff] at h
    exact ⟨cvV_kr x h.1 hc.1, VV_kr x h.2 hc.2⟩
  | [], _ :: _, _, h => h.elim
  | _ :: _, [], _, h => h.elim
theorem cvT_kr {l : Nat} {E E' : Env} {w w' : World} (x : KeepsR l E w E' w') {t : T} {u : Value} (hl : t.hasR l = false) (h : cvT E w t u) : cvT E' w' t u := by
  cases t with
  | v v => exact cvV_kr x hl h
  | tup ts => obtain ⟨arr, hu, h⟩ := h; exact ⟨arr, hu, VV_kr x hl h⟩
  | any => trivial
/-- A region's data, as the callee is handed it. -/
def sfC (l : Nat) : C → Option C
  | .r k x => match Nat.beq k l with | true => some (.z x) | false => none
  | .d _ (.i k n) => some (.z (.i k n))
  | .d _ (.b n) => some (.z (.b n))
  | .d _ (.str n) => some (.z (.str n))
  | .nil => some (.z (.l []))
  | _ => none
def sfCs (l : Nat) : List C → Option (List C)
  | [] => some []
  | c :: cs => match sfC l c, sfCs l cs with
    | some x, some xs => some (x :: xs)
    | _, _ => none
/-- The first argument is the region's data, the second a number. -/
def sfTs (l : Nat) : List T → Option (List T)
  | [.v (.c c), .v (.c (.d _ (.i k n)))] => match sfC l c with | some x => some [.v (.c x), .v (.c (.d false (.i k n)))] | none => none
  | [.v (.agg cs), .v (.c (.d _ (.i k n)))] => match sfCs l cs with | some x => some [.v (.agg x), .v (.c (.d false (.i k n)))] | none => none
  | _ => none
theorem sfC_ok {E : Env} {w : World} {l : Nat} {c c' : C} {u : Value} (h : sfC l c = some c') (hc : cvC E w c u) : cvC (EZ (E.T l)) w c' u := by
  cases c with
  | r k x =>
    simp only [sfC] at h
    split at h
    · rename_i hb
      have := Nat.eq_of_beq_eq_true hb; subst this
      cases h; exact rsD_of _ _ hc
    · cases h
  | d g x =>
    cases x with
    | i k n => simp [sfC] at h; subst h; simp only [cvC, rdD] at hc; simp only [cvC, rsD]; exact ⟨_, hc⟩
    | b n => simp [sfC] at h; subst h; simp only [cvC, rdD] at hc; simp only [cvC, rsD]; exact ⟨_, hc⟩
    | str n => simp [sfC] at h; subst h; simp only [cvC, rdD] at hc; simp only [cvC, rsD]; exact ⟨_, hc⟩
    | l xs => simp [sfC] at h
  | nil => simp [sfC] at h; subst h; show rsD _ _ (.l []) u; rw [rsD]; exact ⟨none, 0, hc, Nat.le_refl _, .inl rfl⟩
  | _ => simp [sfC] at h
theorem sfCs_ok {E : Env} {w : World} {l : Nat} : ∀ {cs cs' : List C} {us : List Value}, sfCs l cs = some cs' → CV E w cs us → CV (EZ (E.T l)) w cs' us
  | [], cs', us, h, hc => by
    simp [sfCs] at h; subst h
    cases us with
    | nil => trivial
    | cons _ _ => exact hc.elim
  | c :: cs, cs', us, h, hc => by
    simp only [sfCs] at h
    split at h
    · rename_i x xs h1 h2
      simp at h; subst h
      cases us with
      | nil => exact hc.elim
      | cons u us => exact ⟨sfC_ok h1 hc.1, sfCs_ok h2 hc.2⟩
    · cases h
theorem cm {f : FuncId} {args : List Operand} {tys : Array TypeId} {ts ts' : List T} {l : Nat} {n : Int} {sl' : List (Nat × T)} (ht : opTs sl args = some ts) (hs : sfTs l ts = some ts') (hF : FnM P f ts' n) (hd : dropS l sl = some sl') (ho : noR l ob = true) (hN : nlt d N = true) :
    AWO P N ⟨some d, .call ⟨.value (.func f), args.toArray, tys⟩, ty, ps, af, gd⟩ ⟨sl, ob, nx⟩ ⟨(d, tI n) :: sl', ob, nx⟩ := by
  intro cx E a w hR
  obtain ⟨t1, t2⟩ := opTs_ok ht
  have hA : TV (EZ (E.T l)) w ts' (args.map a.eval) := by
    match args, ts, t1, t2, hs with
    | [x, y2], [t, t'], _, t2, hs =>
      have h1 := hR.op x; rw [t2.1] at h1
      have h2 := hR.op y2; rw [t2.2.1] at h2
      unfold sfTs at hs
      split at hs
      · rename_i c g k n he
        simp at he; obtain ⟨rfl, rfl⟩ := he
        split at hs
        · rename_i z hz; cases hs; exact ⟨sfC_ok hz h1, by simpa [cvT, cvV, cvC, rdD] using h2, trivial⟩
        · cases hs
      · rename_i cs g k n he
        simp at he; obtain ⟨rfl, rfl⟩ := he
        split at hs
        · rename_i z hz; cases hs
          obtain ⟨arr, hu, h1⟩ := h1
          exact ⟨⟨arr, hu, sfCs_ok hz h1⟩, by simpa [cvT, cvV, cvC, rdD] using h2, trivial⟩
        · cases hs
      · cases hs
    | [], [], _, _, hs => simp [sfTs] at hs
    | [_], [_], _, _, hs => simp [sfTs] at hs
    | _ :: _ :: _ :: _, _ :: _ :: _ :: _, _, _, hs => simp [sfTs] at hs
  have hc := hF.calls (E.T l) w (args.map a.eval).toArray (fun b h => ⟨(hR.ok.sf.tb l b h).1.1, (hR.ok.sf.tb l b h).2.2.2⟩) hR.ok.tabs (fun k hk h => by have := seatInb _ cx.gw.1 k hk; have := (hR.ok.sf.tb l _ h).1.2; omega) (by simpa using hA)
  have hent := hF.enters (args.map a.eval).toArray w
  unfold Oper.wp
  have hrun : (execOp a.eval ⟨some d, .call ⟨.value (.func f), args.toArray, tys⟩, ty, ps, af, gd⟩).run P w = .ok (.enter f (args.map a.eval).toArray) w := by
    simp only [execOp, resolve, Act.eval, Deferred.ofValue, Sem.run_bind, Sem.run_pure, Result.andThen_ok, invoke]
    simpa using hent
  rw [hrun, Oper.upon_enter]
  refine hc.mono ?_
  rintro e w' ⟨rfl, hp⟩
  have hsz := hp.size
  have hws := hR.ok.size
  let E' : Env := { E with T := fun k b => k ≠ l ∧ E.T k b }
  have hHn : ∀ g b, E.H g b → ¬ E.T l b := fun g b h hb => by cases g; exact (hR.ok.sf.tb l b hb).2.1 h; exact (hR.ok.sf.tb l b hb).2.1 (hR.ok.gf b h)
  have hrn : ∀ o b c, E.r o = some (b, c) → ¬ E.T l b := fun o b c h hb => (hR.ok.sf.tb l b hb).2.2.1 o c h
  have htn : ∀ k b, k ≠ l → E.T k b → ¬ E.T l b := fun k b hk h hb => hk (hR.ok.sf.tt k l b h hb)
  have hzn : ∀ b, cx.Z b → ¬ E.T l b := fun b h hb => by have h1 := (hR.ok.sf.tb l b hb).1.2; have h2 := (hR.ok.sf.zc b h).1.1; omega
  have kr : KeepsR l E w E' w' := ⟨fun _ _ h => h, fun _ _ h => h, fun g b h => hp.block b (hR.ok.hb h) (hHn g b h), fun k b hk h => ⟨⟨hk, h⟩, hp.block b (hR.ok.sf.tb k b h).1.1 (htn k b hk h)⟩, fun b h => ⟨h, .of_eq (hp.block b (hR.ok.sf.zb b h).1.2.1 (hzn b (hR.ok.sf.ze b h)))⟩, rfl⟩
  refine ⟨E', ⟨fun b h => by have := hR.ok.fb b h; omega, hR.ok.gf, hR.ok.gn, fun o b c h => ⟨by have := (hR.ok.rb o b c h).1; omega, (hR.ok.rb o b c h).2⟩, hR.ok.inj, hp.os.trans hR.ok.os, hp.tape.trans hR.ok.tape, hp.output.trans hR.ok.output, by omega, fun b h hW => ?_, hR.ok.pin, hR.ok.ff, fun b h h' => (hR.ok.gc b h h').of_eq (hp.block b (hR.ok.fb b h) (hHn false b h)), ⟨fun k b h => ?_, fun k k' b h h' => hR.ok.sf.tt k k' b h.2 h'.2, fun b h => ?_, fun b h => ?_, hR.ok.sf.ze⟩⟩, hR.dom, fun o x h => ?_, fun k => ?_, hR.dfr, by simpa [Act.put] using hR.size, fun k b h => hR.td k b h.2⟩
  · rw [hp.block b (by omega) (fun hz => by have := (hR.ok.sf.tb l b hz).1.2; omega)]; exact hR.ok.block b h hW
  · obtain ⟨h1, h2, h3, h4⟩ := hR.ok.sf.tb k b h.2
    exact ⟨⟨by omega, h1.2⟩, h2, h3, h4.of_eq (hp.block b h1.1 (htn k b h.1 h.2))⟩
  · obtain ⟨h1, h2, h3, h4⟩ := hR.ok.sf.zc b h
    exact ⟨⟨h1.1, by omega, h1.2.2⟩, h2, h3, h4.of_eq (hp.block b h1.2.1 (hzn b h))⟩
  · exact (hR.ok.sf.zs b h).trans (.of_eq (hp.block b (hR.ok.sf.zc b h).1.2.1 (hzn b h)))
  · have hob := hR.obs o x h
    cases x with
    | var t cs =>
      obtain ⟨b, c, arr, k1, k2, k3, k4⟩ := hob
      exact ⟨b, c, arr, k1, (hp.block b (hR.ok.rb o b c k1).1 (hrn o b c k1)).trans k2, CV_kr kr (noR_go ho h) k3, k4⟩
    | row t sz els g m =>
      obtain ⟨b, c, arr, k1, k2, k3, k4, k5, k6, k7, k8, k9⟩ := hob
      have hbb := hp.block b (hR.ok.rb o b c k1).1 (hrn o b c k1)
      exact ⟨b, c, arr, k1, hbb.trans k2, k3, k4, k5, k6, rdLL_mono' (kr.heap g) (kr.H g) hbb _ _ k7, k8, k9⟩
    | rown t sz els g =>
      rcases hob with hob | ⟨k0, b, c, arr, k1, k2, k3, k4, k5, k6, k7, k8⟩
      · exact .inl hob
      · have hbb := hp.block b (hR.ok.rb o b c k1).1 (hrn o b c k1)
        exact .inr ⟨k0, b, c, arr, k1, hbb.trans k2, k3, k4, k5, k6, rdLL_mono' (kr.heap g) (kr.H g) hbb _ _ k7, k8⟩
  · rw [getD_put (by rw [hR.size]; exact blt_lt hN)]
    by_cases hk : d = k
    · subst hk; rw [gt_same, if_pos rfl]; simp [cvT, cvV, cvC, rdD]
    · rw [gt_other _ _ hk, if_neg hk]
      rcases dropS_gt hd k with h | ⟨h, h'⟩
      · show cvT E' w' (gt sl' k) _; rw [h]; trivial
      · show cvT E' w' (gt sl' k) _; rw [h]; exact cvT_kr kr h' (hR.sl k)
end
end Go.AM
