/-
  The abstract machine, part Zm: functions that write things handed to them (a variable and its rows), and that hand back rows which may be nil.
-/
import Derived.Test.YtlpclccdbmoemaaGreatAmZl
set_option linter.unusedVariables false
namespace Go.AM
open Go.RowKit
/-! a row takes another's label -/
/-! the contract -/
/-- What a call begins with: things under labels that are reserved. -/
structure VIn (E : Env) (w : World) : Prop where
  fb : ∀ b, E.F b → b < w.heap.size
  gf : ∀ b, E.G b → E.F b
  rb : ∀ o b c, E.r o = some (b, c) → b < w.heap.size ∧ rsv o = true ∧ ¬ E.F b
  inj : ∀ o o' b c c', E.r o = some (b, c) → E.r o' = some (b, c') → o = o'
  T : ∀ l b, ¬ E.T l b
  Z : ∀ b, ¬ E.Z b
/-- What a call leaves. -/
structure VOut (E : Env) (w : World) (E' : Env) (w' : World) : Prop where
  past : Past w w' (fun k => ∃ o c, E.r o = some (k, c))
  fb : ∀ b, E'.F b → b < w'.heap.size
  f0 : ∀ b, E'.F b → E.F b ∨ (w.heap.size ≤ b ∧ Plain w' b)
  F : ∀ b, E.F b → E'.F b
  G : ∀ b, E.G b → E'.G b
  gf : ∀ b, E'.G b → E'.F b
  g0 : ∀ b, E'.G b → w.heap.size ≤ b ∨ E.G b
  rb : ∀ o b c, E'.r o = some (b, c) → b < w'.heap.size ∧ (w.heap.size ≤ b ∨ ((∃ o' c', E.r o' = some (b, c')) ∧ rsv o = true))
  inj : ∀ o o' b c c', E'.r o = some (b, c) → E'.r o' = some (b, c') → o = o'
  pin : ∀ o x, rsp o = true → E'.r o = some x → E.r o = some x
/-- The contract of a function that writes the things 'xs', which become 'ys', and hands back 'out' with the new things 'nw'. -/
structure FnV (P : Program) (f : FuncId) (xs : List (Nat × Ob)) (args : List T) (ys : List (Nat × Ob)) (out : T) (nw : List (Nat × Ob)) : Prop where
  enters : ∀ (vs : Array Value) (w : World), (callFunc f vs).run P w = .ok (.enter f vs) w
  calls : ∀ (E : Env) (w : World) (vals : Array Value), VIn E w → TabsIn w → (∀ k ∈ seatBlk, ∀ o c, E.r o ≠ some (k, c)) → (∀ l x, go xs l = some x → relOb E w l x) → TV E w args vals.toList →
    Calls P f vals w fun e w' => ∃ v E', e = .returned v ∧ VOut E w E' w' ∧ cvT E' w' out v ∧ (∀ l y, go ys l = some y → relOb E' w' l y) ∧ (∀ l y, go nw l = some y → relOb E' w' l y)
/-- The value of results. -/
def outT : List V → T
  | [v] => .v v
  | vs => .tup vs
def LoA (ob : List (Nat × Ob)) : List (Nat × Ob) → Prop
  | [] => True
  | (l, x) :: r => go ob l = some x ∧ LoA ob r
theorem LoA_go {ob : List (Nat × Ob)} : ∀ {l : List (Nat × Ob)} {k : Nat} {x : Ob}, LoA ob l → go l k = some x → go ob k = some x
  | (j, y) :: r, k, x, h, hg => by
    by_cases e : j = k
    · subst e; rw [go_same] at hg; cases hg; exact h.1
    · rw [go_other _ _ e] at hg; exact LoA_go h.2 hg
/-- How such a function ends. -/
def PostV (N : Nat) (P : Program) (rs : List ResultVar) (ys : List (Nat × Ob)) (out : T) (nw : List (Nat × Ob)) : Exit → St → Prop
  | .ret, s | .normal, s => ∃ s' vs, Weak N s s' ∧ ResVs P s' rs vs ∧ outT vs = out ∧ LoA s'.ob ys ∧ LoA s'.ob nw
  | _, _ => False
instance {N : Nat} {P : Program} {rs : List ResultVar} {ys : List (Nat × Ob)} {out : T} {nw : List (Nat × Ob)} : Clo N (PostV N P rs ys out nw) := ⟨fun e s m hw h => by
  cases e <;> simp only [PostV] at h ⊢ <;> first | exact h | (obtain ⟨s', vs, h1, h2⟩ := h; exact ⟨s', vs, weak_trans hw h1, h2⟩)⟩
theorem clo_v {N : Nat} {P : Program} {rs : List ResultVar} {ys : List (Nat × Ob)} {out : T} {nw : List (Nat × Ob)} {e : Exit} {s m : St} (hw : Weak N s m) (h : PostV N P rs ys out nw e m) : PostV N P rs ys out nw e s := Clo.h (N := N) _ _ _ hw h
theorem fin_retV {N : Nat} {P : Program} {s : St} {rs : List ResultVar} {ys : List (Nat × Ob)} {out out' : T} {nw : List (Nat × Ob)} {vs : List V} (h : ResVs P s rs vs) (ho : outT vs = out') (e : out' = out) (hy : LoA s.ob ys) (hn : LoA s.ob nw) : PostV N P rs ys out nw .ret s := by
  subst e; exact ⟨s, vs, weak_refl s, h, ho, hy, hn⟩
theorem fin_endV {N : Nat} {P : Program} {s : St} {rs : List ResultVar} {ys : List (Nat × Ob)} {out out' : T} {nw : List (Nat × Ob)} {vs : List V} (h : ResVs P s rs vs) (ho : outT vs = out') (e : out' = out) (hy : LoA s.ob ys) (hn : LoA s.ob nw) : PostV N P rs ys out nw .normal s := by
  subst e; exact ⟨s, vs, weak_refl s, h, ho, hy, hn⟩
theorem rsv_lt {o : Nat} (h : rsv o = true) : o < 210 := by
  simp only [rsv, nlt, Bool.and_eq_true, Nat.ble_eq] at h; omega
theorem fn_inV {P : Program} {f : FuncId} {fn : Func} {c : Code} {N : Nat} {xs ys : List (Nat × Ob)} {args : List T} {rs : List ResultVar} {out : T} {nw : List (Nat × Ob)} {sl0 : List (Nat × T)} (hf : P.funcs[f]? = some fn) (hb : fn.body = some c) (hnm : (fn.name == "runtime.NumGoroutine") = false) (hN : fn.ntmps = N) (hrs : fn.results.toList = rs)
    (ha : Nat.ble args.length N = true) (hs : argW 0 args = sl0) (h : AWC P N c ⟨sl0, xs, 210⟩ (PostV N P rs ys out nw)) : FnV P f xs args ys out nw := by
  subst hs
  refine ⟨fun vs w => by simp [callFunc, hf, hb]; simpa using hnm, fun E w vals hI hT hTb hx hA => ?_⟩
  subst hrs
  refine calls_of_wp hf hb ?_
  obtain ⟨h1, h2⟩ := argW_ok 0 hA
  have hle : args.length ≤ N := Nat.le_of_ble_eq_true ha
  have hsz : vals.size = args.length := by simpa using h1
  have hR : Rel N ⟨w, fun k => ∃ o c, E.r o = some (k, c), E.r, E.F, fun _ => False, ⟨hT, fun k hk ⟨o, c, h⟩ => hTb k hk o c h⟩, E.G⟩ E ⟨argW 0 args, xs, 210⟩ { tmps := vals ++ Array.replicate (fn.ntmps - vals.size) undef, defers := [] } w := by
    refine ⟨⟨hI.fb, hI.gf, fun _ h => .inr h, fun o k k' h => ?_, hI.inj, rfl, rfl, rfl, Nat.le_refl _, fun _ _ _ => rfl, fun _ _ _ h => h, fun _ h => .inl h, fun b h h' => absurd (hI.fb b h) (by have : w.heap.size ≤ b := h'; omega), ⟨fun l b h => absurd h (hI.T l b), fun l _ b h => absurd h (hI.T l b), fun _ h => h.elim, fun _ h => h.elim, fun b h => absurd h (hI.Z b)⟩⟩, fun o p h => ?_, fun o ob h => hx o ob h, fun k => ?_, rfl, by simp; omega, fun l b h => absurd h (hI.T l b)⟩
    · obtain ⟨k1, k2, _⟩ := hI.rb o k k' h; exact ⟨k1, .inr ⟨⟨o, k', h⟩, k2⟩⟩
    · exact rsv_lt (hI.rb o p.1 p.2 h).2.1
    · by_cases hk : k < args.length
      · obtain ⟨u, h3, h4⟩ := (h2 k).1 ⟨Nat.zero_le _, by omega⟩
        have : (vals ++ Array.replicate (fn.ntmps - vals.size) undef).getD k undef = u := by
          have h5 : vals[k]? = some u := by simpa using h3
          have h6 : (vals ++ Array.replicate (fn.ntmps - vals.size) undef)[k]? = some u := by rw [Array.getElem?_append_left (by omega)]; exact h5
          simp [h6]
        rw [this]; exact h4
      · have := (h2 k).2 (by omega)
        show cvT _ w (gt (argW 0 args) k) _
        rw [this]; trivial
  refine wp_mono (h _ _ _ w hR) ?_
  rintro e a' w' ⟨E', s', hR', hq⟩
  have fin : (∃ s'' vs, Weak N s' s'' ∧ ResVs P s'' fn.results.toList vs ∧ outT vs = out ∧ LoA s''.ob ys ∧ LoA s''.ob nw) →
      a'.defers = [] ∧ ∃ v, (results fn a'.tmps).run P w' = .ok v w' ∧ ∃ v' E', Ending.returned v = .returned v' ∧ VOut E w E' w' ∧ cvT E' w' out v' ∧ (∀ l y, go ys l = some y → relOb E' w' l y) ∧ (∀ l y, go nw l = some y → relOb E' w' l y) := by
    rintro ⟨s'', vs, hw, hres, ho, hys, hnw⟩
    obtain ⟨E'', hR''⟩ := hw _ _ _ _ hR'
    have ok := hR''.ok
    obtain ⟨us, k1, k2⟩ := ResVs_ok hR'' hres
    have hm : (fn.results.mapM (resOne a'.tmps)).run P w' = .ok us.toArray w' := by
      rw [← Array.toArray_toList (xs := fn.results), List.mapM_toArray]
      simp only [Sem.run_map, k1]
      rfl
    have hrr : results fn a'.tmps = (fn.results.mapM (resOne a'.tmps)) >>= fun vs => pure (if h : vs.size = 1 then vs[0] else .tuple vs) := rfl
    have hv : ∃ v, (results fn a'.tmps).run P w' = .ok v w' ∧ cvT E'' w' out v := by
      subst ho
      match vs, us, k2 with
      | [], [], _ => exact ⟨.tuple #[], by rw [hrr]; simp [hm], #[], rfl, trivial⟩
      | [v], [u], k2 => exact ⟨u, by rw [hrr]; simp [hm], k2.1⟩
      | v1 :: v2 :: vs, u1 :: u2 :: us, k2 => exact ⟨.tuple (u1 :: u2 :: us).toArray, by rw [hrr]; simp [hm], _, rfl, k2⟩
    obtain ⟨v, q1, q2⟩ := hv
    have hk : Keeps E'' w' { E'' with F := fun b => E''.F b ∨ E.F b, G := fun b => E''.G b ∨ E.G b } w' := ⟨fun _ _ h => h, fun g b h => by cases g <;> exact .inl h, fun _ _ _ => rfl, fun _ _ h => ⟨h, rfl⟩, fun _ h => ⟨h, .refl _ _⟩, rfl⟩
    have hob : ∀ l y, go s''.ob l = some y → relOb { E'' with F := fun b => E''.F b ∨ E.F b, G := fun b => E''.G b ∨ E.G b } w' l y := fun l y h =>
      relOb_keeps hk (fun _ _ _ => rfl) (fun b c hr hn hF => hF.elim hn (fun hF => by
        rcases (ok.rb l b c hr).2 with k | ⟨⟨o, c', k⟩, _⟩
        · have := hI.fb b hF; simp only at k; omega
        · exact (hI.rb o b c' k).2.2 hF)) (hR''.obs l y h)
    refine ⟨hR''.dfr, v, q1, v, { E'' with F := fun b => E''.F b ∨ E.F b, G := fun b => E''.G b ∨ E.G b }, rfl, ⟨⟨ok.os, ok.tape, ok.output, ok.size, ok.block⟩, fun b h => h.elim (ok.fb b) (fun h => by have := hI.fb b h; have := ok.size; simp only at this; omega), fun b h => h.elim (fun h => (ok.ff b h).elim .inl (fun k => .inr ⟨k, ok.gc b h k⟩)) .inl, fun b h => .inr h, fun b h => .inr h, fun b h => h.imp (ok.gf b) (hI.gf b), fun b h => h.elim (ok.gn b) .inr, fun o b c h => ?_, ok.inj, fun o x hv h => ?_⟩, ?_, ?_, ?_⟩
    · obtain ⟨m1, m2⟩ := ok.rb o b c h
      exact ⟨m1, m2⟩
    · exact ok.pin o x hv h
    · exact cvT_keeps hk q2
    · exact fun l y h => hob l y (LoA_go hys h)
    · exact fun l y h => hob l y (LoA_go hnw h)
  cases e with
  | normal => exact fin hq
  | ret => exact fin hq
  | _ => exact hq.elim
end Go.AM
