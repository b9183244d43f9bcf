/-
  The abstract machine, part Zd: functions that write scalars into what is handed to them, of which the shape alone is kept; regions of the caller's own.
-/
import Derived.Test.YtlpclccdbmoemaaGreatAmZb
import Derived.Test.YtlpclccdbmoemaaGreatAmV
set_option linter.unusedVariables false
namespace Go.AM
open Go.RowKit
def EZ (R : Nat → Prop) : Env := { r := fun _ => none, F := fun _ => False, G := fun _ => False, Z := R }
structure PastM (w w' : World) (R : Nat → Prop) : Prop where
  os : w'.os = w.os
  tape : w'.tape = w.tape
  output : w'.output = w.output
  size : w.heap.size ≤ w'.heap.size
  block : ∀ b, b < w.heap.size → ¬ R b → w'.heap[b]? = w.heap[b]?
  sim : ∀ b, R b → SimB w w' b ∧ Plain w' b
/-- The contract of a function that writes scalars into what it is handed. -/
structure FnM (P : Program) (f : FuncId) (args : List T) (n : Int) : Prop where
  enters : ∀ (vs : Array Value) (w : World), (callFunc f vs).run P w = .ok (.enter f vs) w
  calls : ∀ (R : Nat → Prop) (w : World) (vals : Array Value), (∀ b, R b → b < w.heap.size ∧ Plain w b) → TabsIn w → (∀ k ∈ seatBlk, ¬ R k) → TV (EZ R) w args vals.toList →
    Calls P f vals w fun e w' => e = .returned (.int .i64 n) ∧ PastM w w' R
/-! reading what is soft -/
section
variable {P : Program} {N : Nat} {d : Tmp} {x y : Operand} {ty : TypeId} {ps : String} {af : Array Edge} {gd : Option (Nat × Bool)} {sl : List (Nat × T)} {ob : List (Nat × Ob)} {nx : Nat} {α : Type} {enc : α → List D}
theorem n_len_z {t : TypeId} {xs : List (List D)} {e sz by_ : Nat} [ht : TySl P t e sz by_] : AWN P ⟨some d, .call ⟨.builtin .len, #[x], #[t]⟩, ty, ps, af, gd⟩ [(x, .v (.c (.z (.l xs))))] [] (tI xs.length) [] :=
  awn_pure fun E ac w hn _ => by
    have h := hn x _ (.head _)
    simp only [cvT, cvV, cvC, rsD] at h
    obtain ⟨A, c, hu, _⟩ := h
    exact ⟨_, by simp [execOp, resolve, invoke, builtin, hu, Builtin.len_, underlying, ht.u, goInt]; rfl, by simp [cvT, cvV, cvC, rdD]⟩
theorem n_field_z {t : TypeId} {f off ft : Nat} {e : List D} {j : Nat} [h : TyF P t f off ft] : AWN P ⟨some d, .fieldAddr t x f, ty, ps, af, gd⟩ [(x, .v (.c (.zq e j)))] [] (.v (.c (.zq e (j + off)))) [] :=
  awn_pure fun E a w hn _ => by
    obtain ⟨b, k, hu, hb, hl⟩ := hn x _ (.head _)
    exact ⟨_, by simp [execOp, hu, fieldAt_run]; rfl, b, k, by simp [Nat.add_assoc], hb, hl⟩
theorem n_load_z {t : TypeId} {e : List D} {j : Nat} {xd : D} [ht : TySc P t] (hc : e[j]? = some xd) : AWN P ⟨some d, .load t x, ty, ps, af, gd⟩ [(x, .v (.c (.zq e j)))] [] (.v (.c (.z xd))) [] :=
  awn_pure fun E a w hn _ => by
    obtain ⟨b, k, hu, hb, hl⟩ := hn x _ (.head _)
    obtain ⟨u, h1, h2⟩ := rsL_at hl hc
    exact ⟨u, by simp [execOp, hu, loadAt_one h1], h2⟩
theorem rsL_list {w : World} {F : Nat → Prop} : ∀ {e : List D} {b k : Nat}, rsL w F e b k → ∃ us : List Value, us.length = e.length ∧ (∀ (j : Nat) (u : Value), us[j]? = some u → w.cell? ⟨b, k + j, none⟩ = some u) ∧ ∀ (j : Nat) (xd : D), e[j]? = some xd → ∃ u, us[j]? = some u ∧ rsD w F xd u
  | [], b, k, _ => ⟨[], rfl, by simp, by simp⟩
  | x :: e, b, k, h => by
    rw [rsL] at h
    obtain ⟨⟨u, hc, hu⟩, h⟩ := h
    obtain ⟨us, h1, h2, h3⟩ := rsL_list h
    refine ⟨u :: us, by simp [h1], fun j v hj => ?_, fun j xd hj => ?_⟩
    · cases j with
      | zero => simp at hj; subst hj; simpa using hc
      | succ j => have := h2 j v (by simpa using hj); rwa [show k + 1 + j = k + (j + 1) from by omega] at this
    · cases j with
      | zero => simp at hj; subst hj; exact ⟨u, rfl, hu⟩
      | succ j => obtain ⟨v, h4, h5⟩ := h3 j xd (by simpa using hj); exact ⟨v, by simpa using h4, h5⟩
theorem CV_map_z {E : Env} {w : World} : ∀ {e : List D} {us : List Value}, us.length = e.length → (∀ (j : Nat) (xd : D), e[j]? = some xd → ∃ u, us[j]? = some u ∧ rsD w E.Z xd u) → CV E w (e.map C.z) us
  | [], [], _, _ => trivial
  | x :: e, u :: us, hl, h => by
    obtain ⟨v, h1, h2⟩ := h 0 x rfl
    simp at h1; subst h1
    exact ⟨h2, CV_map_z (by simpa using hl) fun j xd hj => by obtain ⟨v, h3, h4⟩ := h (j + 1) xd (by simpa using hj); exact ⟨v, by simpa using h3, h4⟩⟩
  | [], _ :: _, hl, _ => by simp at hl
  | _ :: _, [], hl, _ => by simp at hl
theorem rsL_part {w : World} {F : Nat → Prop} : ∀ {e : List D} {b k : Nat} (_ : rsL w F e b k) (j n : Nat), rsL w F ((e.drop j).take n) b (k + j)
  | [], b, k, _, j, n => by simp [rsL]
  | x :: e, b, k, h, 0, 0 => by simp [rsL]
  | x :: e, b, k, h, 0, n + 1 => by
    rw [rsL] at h
    have := rsL_part h.2 0 n
    simp only [List.drop_zero, List.take_succ_cons, Nat.add_zero] at this ⊢
    rw [rsL]; exact ⟨h.1, this⟩
  | x :: e, b, k, h, j + 1, n => by
    rw [rsL] at h
    have := rsL_part h.2 j n
    simp only [List.drop_succ_cons]
    rwa [show k + 1 + j = k + (j + 1) from by omega] at this
/-- 'C.z' on a list, written out. -/
def zO : List D → Option (List C)
  | [] => some []
  | x :: xs => match zO xs with | some r => some (.z x :: r) | none => none
theorem zO_eq : ∀ {xs : List D} {cs : List C}, zO xs = some cs → cs = xs.map C.z
  | [], cs, h => by simp [zO] at h; subst h; rfl
  | x :: xs, cs, h => by
    simp only [zO] at h
    split at h
    · rename_i r h1; simp at h; subst h; rw [zO_eq h1]; rfl
    · cases h
def zPO (j n : Nat) (e : List D) : Option (List C) := match partO j n e with | some r => zO r | none => none
theorem n_load_z_agg {t : TypeId} {n : Nat} {e : List D} {j : Nat} {cs : List C} [ht : TyAg P t n] (hj : zPO j n e = some cs) :
    AWN P ⟨some d, .load t x, ty, ps, af, gd⟩ [(x, .v (.c (.zq e j)))] [] (.v (.agg cs)) [] :=
  awn_pure fun E a w hn _ => by
    simp only [zPO] at hj
    split at hj
    · rename_i r h1
      obtain ⟨rfl, hle⟩ := partO_eq h1
      rw [zO_eq hj]
      obtain ⟨b, k, hu, hb, hl⟩ := hn x _ (.head _)
      obtain ⟨us, k1, k2, k3⟩ := rsL_list (rsL_part hl j n)
      have hlen : us.length = n := by rw [k1]; simp; omega
      exact ⟨.agg us.toArray, by simp [execOp, hu, loadAt_agg hlen k2], us.toArray, rfl, by simpa using CV_map_z k1 k3⟩
    · cases hj
theorem lz {t : TypeId} {xs : List α} {e sz by_ : Nat} [TySl P t e sz by_] (hx : opT sl x = .v (.c (.z (.l (xs.map enc))))) (hN : nlt d N = true) :
    NS0 P N ⟨some d, .call ⟨.builtin .len, #[x], #[t]⟩, ty, ps, af, gd⟩ sl ob nx d (tI xs.length) ⟨d, [(x, .v (.c (.z (.l (xs.map enc)))))], [], tI xs.length, []⟩ := by
  have := ns_mk (st := ⟨sl, ob, nx⟩) (n_len_z (P := P) (d := d) (ty := ty) (ps := ps) (af := af) (gd := gd) (t := t) (xs := xs.map enc) (x := x)) rfl hN ⟨hx, trivial⟩ trivial rfl
  rwa [List.length_map] at this
theorem fz {t : TypeId} {f off ft : Nat} {e : List D} {j j' : Nat} [TyF P t f off ft] (hx : opT sl x = .v (.c (.zq e j))) (hN : nlt d N = true) (hk : j + off = j') : NS0 P N ⟨some d, .fieldAddr t x f, ty, ps, af, gd⟩ sl ob nx d (.v (.c (.zq e j'))) ⟨d, [(x, .v (.c (.zq e j)))], [], .v (.c (.zq e j')), []⟩ := by
  subst hk; exact ns_mk (st := ⟨sl, ob, nx⟩) n_field_z rfl hN ⟨hx, trivial⟩ trivial rfl
theorem oz {t : TypeId} {e : List D} {j : Nat} {xd : D} [TySc P t] (hx : opT sl x = .v (.c (.zq e j))) (hN : nlt d N = true) (hc : e[j]? = some xd) :
    NS0 P N ⟨some d, .load t x, ty, ps, af, gd⟩ sl ob nx d (.v (.c (.z xd))) ⟨d, [(x, .v (.c (.zq e j)))], [], .v (.c (.z xd)), []⟩ := ns_mk (st := ⟨sl, ob, nx⟩) (n_load_z hc) rfl hN ⟨hx, trivial⟩ trivial rfl
theorem oza {t : TypeId} {n : Nat} {e : List D} {j : Nat} {cs : List C} [TyAg P t n] (hx : opT sl x = .v (.c (.zq e j))) (hN : nlt d N = true) (hc : zPO j n e = some cs) :
    NS0 P N ⟨some d, .load t x, ty, ps, af, gd⟩ sl ob nx d (.v (.agg cs)) ⟨d, [(x, .v (.c (.zq e j)))], [], .v (.agg cs), []⟩ := ns_mk (st := ⟨sl, ob, nx⟩) (n_load_z_agg hc) rfl hN ⟨hx, trivial⟩ trivial rfl
/-- Two scalars of a kind. -/
def likeD : D → C → Bool
  | .i k _, .d _ (.i k' _) => k == k'
  | .b _, .d _ (.b _) => true
  | .str _, .d _ (.str _) => true
  | _, _ => false
theorem rel_soft {cx : Cx} {E : Env} {st : St} {a : Act} {w w' : World} (hR : Rel N cx E st a w) (hp : PastM w w' E.Z) : Rel N cx E st a w' := by
  have hz : ∀ b, E.Z b → ¬ E.F b := fun b h => (hR.ok.sf.zb b h).2.1
  have hHn : ∀ g b, E.H g b → ¬ E.Z b := fun g b h hb => by cases g; exact hz b hb h; exact hz b hb (hR.ok.gf b h)
  have hrn : ∀ o b c, E.r o = some (b, c) → ¬ E.Z b := fun o b c h hb => (hR.ok.sf.zb b hb).2.2.1 o c h
  have htn : ∀ l b, E.T l b → ¬ E.Z b := fun l b h hb => by have h1 := (hR.ok.sf.tb l b h).1.2; have h2 := (hR.ok.sf.zb b hb).1.1; omega
  have hk : Keeps E w E w' := ⟨fun _ _ h => h, fun _ _ h => h, fun g b h => hp.block b (hR.ok.hb h) (hHn g b h), fun l b h => ⟨h, hp.block b (hR.ok.sf.tb l b h).1.1 (htn l b h)⟩, fun b h => ⟨h, (hp.sim b h).1⟩, rfl⟩
  have hsz := hp.size
  refine ⟨⟨fun b h => by have := hR.ok.fb b h; omega, hR.ok.gf, hR.ok.gn, fun o b c h => ⟨by have := (hR.ok.rb o b c h).1; omega, (hR.ok.rb o b c h).2⟩, hR.ok.inj, hp.os.trans hR.ok.os, hp.tape.trans hR.ok.tape, hp.output.trans hR.ok.output, by have := hR.ok.size; omega, fun b h hW => ?_, hR.ok.pin, hR.ok.ff, fun b h h' => (hR.ok.gc b h h').of_eq (hp.block b (hR.ok.fb b h) (hHn false b h)), ?_⟩, hR.dom, fun o x h => ?_, fun k => cvT_keeps hk (hR.sl k), hR.dfr, hR.size, hR.td⟩
  · rw [hp.block b (by have := hR.ok.size; omega) (fun hz => hW (hR.ok.sf.zb b hz).1.2.2)]; exact hR.ok.block b h hW
  · refine ⟨fun l b h => ?_, hR.ok.sf.tt, fun b h => ?_, fun b h => ?_, hR.ok.sf.ze⟩
    · obtain ⟨h1, h2, h3, h4⟩ := hR.ok.sf.tb l b h
      exact ⟨⟨by omega, h1.2⟩, h2, h3, h4.of_eq (hp.block b h1.1 (htn l b h))⟩
    · obtain ⟨h1, h2, h3, h4⟩ := hR.ok.sf.zc b h
      refine ⟨⟨h1.1, by omega, h1.2.2⟩, h2, h3, ?_⟩
      by_cases hb : E.Z b
      · exact (hp.sim b hb).2
      · exact h4.of_eq (hp.block b h1.2.1 hb)
    · refine (hR.ok.sf.zs b h).trans ?_
      by_cases hb : E.Z b
      · exact (hp.sim b hb).1
      · exact .of_eq (hp.block b (hR.ok.sf.zc b h).1.2.1 hb)
  · exact relOb_keeps hk (fun b c h' => hp.block b (hR.ok.rb o b c h').1 (hrn o b c h')) (fun _ _ _ h => h) (hR.obs o x h)
/-- A store into what is soft. -/
theorem stz {t : TypeId} {e : List D} {j : Nat} {xd : D} {c : C} [ht : TyN P t 1] (hx : opT sl x = .v (.c (.zq e j))) (hy : opT sl y = .v (.c c)) (hc : e[j]? = some xd) (hl : likeD xd c = true) : AWO P N ⟨none, .store t x y, ty, ps, af, gd⟩ ⟨sl, ob, nx⟩ ⟨sl, ob, nx⟩ := by
  intro cx E a w hR
  have h1 := hR.op x; rw [hx] at h1
  have h2 := hR.op y; rw [hy] at h2
  obtain ⟨b, k, hu, hb, hrs⟩ := h1
  obtain ⟨u, hcell, hud⟩ := rsL_at hrs hc
  have hsim : simV u (a.eval y) ∧ (a.eval y).cells = #[a.eval y] ∧ (a.eval y).oneCell' = true := by
    cases xd with
    | i kd n =>
      cases c with
      | d g z =>
        cases z with
        | i kd' n' =>
          simp [likeD] at hl; subst hl
          have h2 : a.eval y = .int kd n' := by simpa [cvT, cvV, cvC, rdD] using h2
          rw [rsD] at hud
          obtain ⟨m, rfl⟩ := hud
          rw [h2]; exact ⟨.inr (.inl ⟨_, _, _, rfl, rfl⟩), rfl, rfl⟩
        | _ => simp [likeD] at hl
      | _ => simp [likeD] at hl
    | b n =>
      cases c with
      | d g z =>
        cases z with
        | b n' =>
          have h2 : a.eval y = .bool n' := by simpa [cvT, cvV, cvC, rdD] using h2
          rw [rsD] at hud
          obtain ⟨m, rfl⟩ := hud
          rw [h2]; exact ⟨.inr (.inr (.inl ⟨_, _, rfl, rfl⟩)), rfl, rfl⟩
        | _ => simp [likeD] at hl
      | _ => simp [likeD] at hl
    | str n =>
      cases c with
      | d g z =>
        cases z with
        | str n' =>
          have h2 : a.eval y = .string n' := by simpa [cvT, cvV, cvC, rdD] using h2
          rw [rsD] at hud
          obtain ⟨m, rfl⟩ := hud
          rw [h2]; exact ⟨.inr (.inr (.inr ⟨_, _, rfl, rfl⟩)), rfl, rfl⟩
        | _ => simp [likeD] at hl
      | _ => simp [likeD] at hl
    | l xs => cases c <;> simp [likeD] at hl
    | k A n c' => cases c <;> simp [likeD] at hl
  obtain ⟨hs1, hs2, hs3⟩ := hsim
  obtain ⟨arr, vt, hh⟩ := (hR.ok.sf.zb b hb).2.2.2
  have hlt : k + j < arr.size := by
    rw [cell_var hh] at hcell
    rcases Nat.lt_or_ge (k + j) arr.size with h | h
    · exact h
    · rw [Array.getElem?_eq_none h] at hcell; cases hcell
  have hrun := storeAt_run (P := P) (t := t) (n := 1) (b := b) (k := k + j) (u := a.eval y) (w := w) (by rw [hs2]; rfl) (by rw [hs2]; simpa using hs3) hh (by omega)
  unfold Oper.wp
  simp only [execOp, hu, Sem.run_bind, hrun, Result.andThen_ok, Sem.run_pure, Oper.upon_skip, Act.put]
  refine ⟨E, rel_soft hR ⟨rfl, rfl, rfl, by simp, fun k' _ hk' => setRow_other _ _ _ _ (fun e => hk' (e ▸ hb)), fun b' hb' => ?_⟩⟩
  by_cases hbb : b' = b
  · subst hbb
    refine ⟨fun i v hv => ?_, _, _, setRow_same _ hh⟩
    rw [cell_var hh] at hv hcell
    rw [cell_var (setRow_same _ hh)]
    have hg := getElem?_splice (us := (a.eval y).cells.toList) (vs := arr.toList) (k := k + j) (n := 1) (by rw [hs2]; rfl) (by simp; omega) i
    have hg' : ((arr.toList.take (k + j) ++ (a.eval y).cells.toList ++ arr.toList.drop (k + j + 1)).toArray)[i]? = if k + j ≤ i ∧ i < k + j + (a.eval y).cells.toList.length then (a.eval y).cells.toList[i - (k + j)]? else arr.toList[i]? := by
      simpa using hg
    rw [hg', hs2]
    by_cases hi : i = k + j
    · subst hi
      rw [hcell] at hv; cases hv
      exact ⟨a.eval y, by simp, hs1⟩
    · refine ⟨v, ?_, .inl rfl⟩
      rw [if_neg (by simp; omega)]
      simpa using hv
  · exact ⟨.of_eq (setRow_other _ _ _ _ hbb), (hR.ok.sf.zb b' hb').2.2.2.of_eq (setRow_other _ _ _ _ hbb)⟩
/-! regions of the caller's own -/
/-! a region is given away -/
def C.hasR (l : Nat) : C → Bool
  | .r k _ => Nat.beq k l
  | _ => false
def hasRs (l : Nat) : List C → Bool
  | [] => false
  | c :: cs => c.hasR l || hasRs l cs
def V.hasR (l : Nat) : V → Bool
  | .c x => x.hasR l
  | .agg xs => hasRs l xs
def hasRVs (l : Nat) : List V → Bool
  | [] => false
  | v :: vs => v.hasR l || hasRVs l vs
def T.hasR (l : Nat) : T → Bool
  | .v x => x.hasR l
  | .tup xs => hasRVs l xs
  | .any => false
def dropS (l : Nat) : List (Nat × T) → Option (List (Nat × T))
  | [] => some []
  | (k, t) :: r => match dropS l r with
    | some r' => match t.hasR l with
      | true => some ((k, .any) :: r')
      | false => some ((k, t) :: r')
    | none => none
theorem dropS_gt {l : Nat} : ∀ {sl sl' : List (Nat × T)}, dropS l sl = some sl' → ∀ k, gt sl' k = .any ∨ (gt sl' k = gt sl k ∧ (gt sl k).hasR l = false)
  | [], sl', h, k => by simp [dropS] at h; subst h; exact .inl rfl
  | (j, t) :: r, sl', h, k => by
    simp only [dropS] at h
    split at h
    · rename_i r' h1
      have ih := dropS_gt h1 k
      split at h
      · simp at h; subst h
        by_cases hj : j = k
        · subst hj; left; rw [gt_same]
        · rw [gt_other _ _ hj, gt_other _ _ hj]; exact ih
      · rename_i ht
        simp at h; subst h
        by_cases hj : j = k
        · subst hj; right; rw [gt_same, gt_same]; exact ⟨rfl, ht⟩
        · rw [gt_other _ _ hj, gt_other _ _ hj]; exact ih
    · cases h
/-- All is kept but region l. -/
structure KeepsR (l : Nat) (E : Env) (w : World) (E' : Env) (w' : World) : Prop where
  r : ∀ o x, E.r o = some x → E'.r o = some x
  H : ∀ g b, E.H g b → E'.H g b
  heap : ∀ g b, E.H g b → w'.heap[b]? = w.heap[b]?
  T : ∀ k b, k ≠ l → E.T k b → E'.T k b ∧ w'.heap[b]? = w.heap[b]?
  Z : ∀ b, E.Z b → E'.Z b ∧ SimB w w' b
  n : E'.n = E.n
end
end Go.AM
