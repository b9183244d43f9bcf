/-
  The abstract machine, part X: structs compared, bits, copies, strings.
-/
import Derived.Test.YtlpclccdbmoemaaGreatAmW
import Derived.Test.YtlpclccdbmoemaaGreatAmO
import Derived.Laws.StructEq
set_option linter.unusedVariables false
namespace Go.AM
open Go.RowKit

/-! structs compared -/
def toV : D → Value
  | .i k n => .int k n
  | .b b => .bool b
  | .str s => .string s
  | .l _ => .slice none 0 0
  | .k _ _ _ => .slice none 0 0
def eqD1 : D → D → Bool
  | .i _ a, .i _ b => eqB a b
  | .b a, .b b => a == b
  | .str a, .str b => strB a b
  | _, _ => false
def eqDs : List D → List D → Bool
  | x :: xs, y :: ys => eqD1 x y && eqDs xs ys
  | _, _ => true
/-- Scalars of the kinds that are named. -/
def shB : List Sh → List D → Bool
  | [], [] => true
  | .i k :: ss, .i k' _ :: xs => decide (k = k') && shB ss xs
  | .b :: ss, .b _ :: xs => shB ss xs
  | .str :: ss, .str _ :: xs => shB ss xs
  | _, _ => false
theorem shB_len : ∀ {ss : List Sh} {xs : List D}, shB ss xs = true → xs.length = ss.length
  | [], [], _ => rfl
  | .i k :: ss, .i k' _ :: xs, h => by simp [shB] at h; simp [shB_len h.2]
  | .b :: ss, .b _ :: xs, h => by simp [shB] at h; simp [shB_len h]
  | .str :: ss, .str _ :: xs, h => by simp [shB] at h; simp [shB_len h]
  | [], _ :: _, h => by simp [shB] at h
  | .i _ :: _, [], h => by simp [shB] at h
  | .i _ :: _, .b _ :: _, h => by simp [shB] at h
  | .i _ :: _, .str _ :: _, h => by simp [shB] at h
  | .i _ :: _, .l _ :: _, h => by simp [shB] at h
  | .i _ :: _, .k _ _ _ :: _, h => by simp [shB] at h
  | .b :: _, [], h => by simp [shB] at h
  | .b :: _, .i _ _ :: _, h => by simp [shB] at h
  | .b :: _, .str _ :: _, h => by simp [shB] at h
  | .b :: _, .l _ :: _, h => by simp [shB] at h
  | .b :: _, .k _ _ _ :: _, h => by simp [shB] at h
  | .str :: _, [], h => by simp [shB] at h
  | .str :: _, .i _ _ :: _, h => by simp [shB] at h
  | .str :: _, .b _ :: _, h => by simp [shB] at h
  | .str :: _, .l _ :: _, h => by simp [shB] at h
  | .str :: _, .k _ _ _ :: _, h => by simp [shB] at h
  | .l _ :: _, [], h => by simp [shB] at h
  | .l _ :: _, _ :: _, h => by simp [shB] at h
theorem shB_app : ∀ {s1 s2 : List Sh} {xs : List D}, shB (s1 ++ s2) xs = true → shB s1 (xs.take s1.length) = true ∧ shB s2 (xs.drop s1.length) = true
  | [], s2, xs, h => by simpa [shB] using h
  | .i k :: s1, s2, .i k' n :: xs, h => by
    simp only [List.cons_append, shB, Bool.and_eq_true] at h
    obtain ⟨h1, h2⟩ := shB_app h.2
    exact ⟨by simp only [List.length_cons, List.take_succ_cons, shB, Bool.and_eq_true]; exact ⟨h.1, h1⟩, by simpa using h2⟩
  | .b :: s1, s2, .b n :: xs, h => by
    simp only [List.cons_append, shB] at h
    obtain ⟨h1, h2⟩ := shB_app h
    exact ⟨by simp only [List.length_cons, List.take_succ_cons, shB]; exact h1, by simpa using h2⟩
  | .str :: s1, s2, .str n :: xs, h => by
    simp only [List.cons_append, shB] at h
    obtain ⟨h1, h2⟩ := shB_app h
    exact ⟨by simp only [List.length_cons, List.take_succ_cons, shB]; exact h1, by simpa using h2⟩
  | .i _ :: _, _, [], h => by simp [shB] at h
  | .i _ :: _, _, .b _ :: _, h => by simp [shB] at h
  | .i _ :: _, _, .str _ :: _, h => by simp [shB] at h
  | .i _ :: _, _, .l _ :: _, h => by simp [shB] at h
  | .i _ :: _, _, .k _ _ _ :: _, h => by simp [shB] at h
  | .b :: _, _, [], h => by simp [shB] at h
  | .b :: _, _, .i _ _ :: _, h => by simp [shB] at h
  | .b :: _, _, .str _ :: _, h => by simp [shB] at h
  | .b :: _, _, .l _ :: _, h => by simp [shB] at h
  | .b :: _, _, .k _ _ _ :: _, h => by simp [shB] at h
  | .str :: _, _, [], h => by simp [shB] at h
  | .str :: _, _, .i _ _ :: _, h => by simp [shB] at h
  | .str :: _, _, .b _ :: _, h => by simp [shB] at h
  | .str :: _, _, .l _ :: _, h => by simp [shB] at h
  | .str :: _, _, .k _ _ _ :: _, h => by simp [shB] at h
  | .l _ :: _, _, [], h => by simp [shB] at h
  | .l _ :: _, _, _ :: _, h => by simp [shB] at h
theorem eqDs_split : ∀ (n : Nat) (xs ys : List D), xs.length = ys.length → eqDs xs ys = (eqDs (xs.take n) (ys.take n) && eqDs (xs.drop n) (ys.drop n))
  | 0, xs, ys, _ => by simp [eqDs]
  | n + 1, [], [], _ => by simp [eqDs]
  | n + 1, x :: xs, y :: ys, h => by
    simp only [List.take_succ_cons, List.drop_succ_cons, eqDs]
    rw [eqDs_split n xs ys (by simpa using h), Bool.and_assoc]
  | n + 1, [], _ :: _, h => by simp at h
  | n + 1, _ :: _, [], h => by simp at h
def vsD' (xs : List D) : Array Value := (xs.map toV).toArray
def EqS (P : Program) (t : TypeId) (s : Sh) : Prop := ∀ (d : Nat) (w : World) (x y : D), shB [s] [x] = true → shB [s] [y] = true → (Op.equalIn (d + 1) t (toV x) (toV y)).run P w = .ok (eqD1 x y) w
def EqA (P : Program) (k : Nat) (t : TypeId) (ss : List Sh) : Prop := ∀ (d : Nat) (w : World) (xs ys : List D), k ≤ d → shB ss xs = true → shB ss ys = true → (Op.equalIn d t (.agg (vsD' xs)) (.agg (vsD' ys))).run P w = .ok (eqDs xs ys) w
def EqF (P : Program) (k : Nat) (o : Nat) (fs : List Field) (ss : List Sh) : Prop := ∀ (d : Nat) (w : World) (X Y : List D), k ≤ d → shB ss (X.drop o) = true → shB ss (Y.drop o) = true → (Op.eqFields d (vsD' X) (vsD' Y) fs).run P w = .ok (eqDs (X.drop o) (Y.drop o)) w
theorem eqS_int {P : Program} {t : TypeId} {k : IntKind} (h : P.underlying t = some (.int k)) : EqS P t (.i k) := by
  intro d w x y hx hy
  cases x <;> simp [shB] at hx
  cases y <;> simp [shB] at hy
  subst hx; subst hy
  rw [toV, toV, run_equalIn_int w d t _ k _ _ h]
  simp [eqD1, eqB, beq_dec]
theorem eqF_nil {P : Program} {k o : Nat} : EqF P k o [] [] := by
  intro d w X Y hd hx hy
  have h1 := shB_len hx
  have h2 := shB_len hy
  rw [List.length_eq_zero_iff.1 h1, List.length_eq_zero_iff.1 h2]
  simp [Op.eqFields, eqDs]
theorem vs_get {X : List D} {o : Nat} {x : D} {r : List D} (h : X.drop o = x :: r) : (vsD' X)[o]? = some (toV x) := by
  have : X[o]? = some x := by
    have := List.getElem?_drop (xs := X) (i := o) (j := 0)
    rw [h] at this
    simpa using this.symm
  simp [vsD', this]
theorem eqF_s {P : Program} {k o : Nat} {f : Field} {fs : List Field} {s : Sh} {ss : List Sh} (ho : f.offset = o) (hn : f.name ≠ "_") (hs : TySc P f.type) (he : EqS P f.type s) (h : EqF P (k + 1) (o + 1) fs ss) : EqF P (k + 1) o (f :: fs) (s :: ss) := by
  intro d w X Y hd hx hy
  obtain ⟨d, rfl⟩ : ∃ d', d = d' + 1 := ⟨d - 1, by omega⟩
  have l1 := shB_len hx
  have l2 := shB_len hy
  cases hX : X.drop o with
  | nil => rw [hX] at l1; simp at l1
  | cons x X' =>
    cases hY : Y.drop o with
    | nil => rw [hY] at l2; simp at l2
    | cons y Y' =>
      rw [hX] at hx; rw [hY] at hy
      have a1 := shB_app (s1 := [s]) (s2 := ss) hx
      have a2 := shB_app (s1 := [s]) (s2 := ss) hy
      simp only [List.length_cons, List.length_nil, Nat.zero_add, List.take_succ_cons, List.take_zero, List.drop_succ_cons, List.drop_zero] at a1 a2
      have e1 : X.drop (o + 1) = X' := by rw [← List.drop_drop, hX]; rfl
      have e2 : Y.drop (o + 1) = Y' := by rw [← List.drop_drop, hY]; rfl
      have ih := h (d + 1) w X Y hd (by rw [e1]; exact a1.2) (by rw [e2]; exact a2.2)
      simp only [Op.eqFields, hn, ne_eq, not_false_eq_true, if_true, Sem.run_bind, part, hs.h, Result.andThen_ok, ho, vs_get hX, vs_get hY, Sem.run_pure, Bool.false_eq_true, if_false, he d w x y a1.1 a2.1]
      rw [eqDs, ← e1, ← e2]
      cases hq : eqD1 x y
      · simp
      · simpa using ih
theorem vs_part {X : List D} {o n : Nat} : (vsD' X).extract o (o + n) = vsD' ((X.drop o).take n) := by
  apply Array.ext'
  simp [vsD', List.map_drop, List.map_take, List.extract_eq_take_drop]
theorem eqF_a {P : Program} {k k' o n : Nat} {f : Field} {fs : List Field} {s1 ss : List Sh} (ho : f.offset = o) (hn : f.name ≠ "_") (hs : TyAg P f.type n) (hl : s1.length = n) (hk : k' ≤ k) (he : EqA P k' f.type s1) (h : EqF P k (o + n) fs ss) : EqF P k o (f :: fs) (s1 ++ ss) := by
  intro d w X Y hd hx hy
  have l1 := shB_len hx
  have l2 := shB_len hy
  have a1 := shB_app hx
  have a2 := shB_app hy
  rw [hl] at a1 a2
  have ih := h d w X Y hd (by rw [← List.drop_drop]; exact a1.2) (by rw [← List.drop_drop]; exact a2.2)
  obtain ⟨i, hi, hin⟩ := hs.n
  simp only [Op.eqFields, hn, ne_eq, not_false_eq_true, if_true, Sem.run_bind, part, hs.h, Result.andThen_ok, ho, sizeOf_run hi, hin, vs_part, Sem.run_pure, he d w _ _ (by omega) a1.1 a2.1]
  rw [eqDs_split n (X.drop o) (Y.drop o) (by omega), List.drop_drop, List.drop_drop]
  cases hq : eqDs ((X.drop o).take n) ((Y.drop o).take n)
  · simp
  · simpa using ih
theorem eqA_struct {P : Program} {k : Nat} {t : TypeId} {ss : List Sh} {fs : Array Field} (hu : P.underlying t = some (.struct fs)) (hp : P.stoodInHeld t = false) (h : EqF P k 0 fs.toList ss) : EqA P (k + 1) t ss := by
  intro d w xs ys hd hx hy
  obtain ⟨d, rfl⟩ : ∃ d', d = d' + 1 := ⟨d - 1, by omega⟩
  have hf : P.fieldsOf t = fs := by simp [Program.fieldsOf, hu]
  rw [run_equalIn_struct w d t _ _ (by rw [hf]; exact hu) hp, hf]
  have := h d w xs ys (by omega) (by simpa using hx) (by simpa using hy)
  simpa using this
class TyEq (P : Program) (t : TypeId) (ss : outParam (List Sh)) : Prop where
  h : ∃ k, k ≤ 10000 ∧ EqA P k t ss
  g : P.eqGuardType P.depth t = false
def scalC : C → Option D
  | .d _ (.i k n) => some (.i k n)
  | .d _ (.b b) => some (.b b)
  | .d _ (.str s) => some (.str s)
  | _ => none
def scalCs : List C → Option (List D)
  | [] => some []
  | c :: cs => match scalC c, scalCs cs with
    | some x, some xs => some (x :: xs)
    | _, _ => none
theorem scalC_ok {E : Env} {w : World} {c : C} {x : D} {u : Value} (h : scalC c = some x) (hc : cvC E w c u) : u = toV x := by
  cases c with
  | d g y => cases y <;> simp [scalC] at h <;> subst h <;> simpa [cvC, rdD, toV] using hc
  | _ => simp [scalC] at h
theorem scalCs_ok {E : Env} {w : World} : ∀ {cs : List C} {xs : List D} {us : List Value}, scalCs cs = some xs → CV E w cs us → us = xs.map toV
  | [], xs, [], h, _ => by simp [scalCs] at h; subst h; rfl
  | [], _, _ :: _, _, hc => hc.elim
  | c :: cs, xs, [], h, hc => hc.elim
  | c :: cs, xs, u :: us, h, hc => by
    simp only [scalCs] at h
    split at h
    · rename_i x xs' h1 h2
      simp at h; subst h
      rw [List.map_cons, scalC_ok h1 hc.1, scalCs_ok h2 hc.2]
    · cases h
section
variable {P : Program} {N : Nat} {d : Tmp} {ty : TypeId} {ps : String} {af : Array Edge} {gd : Option (Nat × Bool)} {x y z : Operand} {sl : List (Nat × T)} {ob : List (Nat × Ob)} {nx : Nat}
theorem run_seq {t : TypeId} {ss : List Sh} [h : TyEq P t ss] {as bs : List D} (h1 : shB ss as = true) (h2 : shB ss bs = true) (w : World) (o : BinOp) (ho : o = .eql ∨ o = .neq) (x y : Operand) :
    ((do eqGuard o t x y (.agg (vsD' as)) (.agg (vsD' bs)); binOp o t (.agg (vsD' as)) (.agg (vsD' bs))) : Sem Value).run P w = .ok (.bool (if o = .eql then eqDs as bs else !eqDs as bs)) w := by
  obtain ⟨k, hk, he⟩ := h.h
  have := he 10000 w as bs hk h1 h2
  rcases ho with rfl | rfl
  · simp [Sem.run_bind, run_eqGuard_agg w _ t x y _ _ h.g, run_eql_struct, this]
  · simp [Sem.run_bind, run_eqGuard_agg w _ t x y _ _ h.g, run_neq_struct, this]
theorem n_seq {t t' : TypeId} {ss : List Sh} [h : TyEq P t ss] {cs ds : List C} {as bs : List D} (ha : scalCs cs = some as) (hb : scalCs ds = some bs) (h1 : shB ss as = true) (h2 : shB ss bs = true) :
    AWN P ⟨some d, .binOp .eql t x y t', ty, ps, af, gd⟩ [(x, .v (.agg cs)), (y, .v (.agg ds))] [] (tB (eqDs as bs)) [] :=
  awn_pure fun E ac w hn _ => by
    obtain ⟨a1, hu1, hc1⟩ := hn x _ (.head _)
    obtain ⟨a2, hu2, hc2⟩ := hn y _ (.tail _ (.head _))
    have e1 : a1 = vsD' as := by apply Array.ext'; simpa [vsD'] using scalCs_ok ha hc1
    have e2 : a2 = vsD' bs := by apply Array.ext'; simpa [vsD'] using scalCs_ok hb hc2
    subst e1; subst e2
    refine ⟨_, ?_, rfl⟩
    have := run_seq (P := P) (t := t) h1 h2 w .eql (.inl rfl) x y
    simp only [Sem.run_bind, if_true] at this
    simp only [execOp, hu1, hu2, Sem.run_bind]
    generalize (eqGuard BinOp.eql t x y (Value.agg (vsD' as)) (Value.agg (vsD' bs))).run P w = q at *
    cases q with
    | ok a w' => simp only [Result.andThen_ok] at this ⊢; rw [this]; rfl
    | halt a w' => simp [Result.andThen] at this
theorem n_sne {t t' : TypeId} {ss : List Sh} [h : TyEq P t ss] {cs ds : List C} {as bs : List D} (ha : scalCs cs = some as) (hb : scalCs ds = some bs) (h1 : shB ss as = true) (h2 : shB ss bs = true) :
    AWN P ⟨some d, .binOp .neq t x y t', ty, ps, af, gd⟩ [(x, .v (.agg cs)), (y, .v (.agg ds))] [] (tB (!eqDs as bs)) [] :=
  awn_pure fun E ac w hn _ => by
    obtain ⟨a1, hu1, hc1⟩ := hn x _ (.head _)
    obtain ⟨a2, hu2, hc2⟩ := hn y _ (.tail _ (.head _))
    have e1 : a1 = vsD' as := by apply Array.ext'; simpa [vsD'] using scalCs_ok ha hc1
    have e2 : a2 = vsD' bs := by apply Array.ext'; simpa [vsD'] using scalCs_ok hb hc2
    subst e1; subst e2
    refine ⟨_, ?_, rfl⟩
    have := run_seq (P := P) (t := t) h1 h2 w .neq (.inr rfl) x y
    simp only [Sem.run_bind, reduceCtorEq, if_false] at this
    simp only [execOp, hu1, hu2, Sem.run_bind]
    generalize (eqGuard BinOp.neq t x y (Value.agg (vsD' as)) (Value.agg (vsD' bs))).run P w = q at *
    cases q with
    | ok a w' => simp only [Result.andThen_ok] at this ⊢; rw [this]; rfl
    | halt a w' => simp [Result.andThen] at this
theorem qe {t t' : TypeId} {ss : List Sh} {cs ds : List C} {as bs : List D} [TyEq P t ss] (hx : opT sl x = .v (.agg cs)) (hy : opT sl y = .v (.agg ds)) (hN : nlt d N = true) (ha : scalCs cs = some as) (hb : scalCs ds = some bs) (h1 : shB ss as = true) (h2 : shB ss bs = true) :
    NS0 P N ⟨some d, .binOp .eql t x y t', ty, ps, af, gd⟩ sl ob nx d (tB (eqDs as bs)) ⟨d, [(x, .v (.agg cs)), (y, .v (.agg ds))], [], tB (eqDs as bs), []⟩ := ns_mk (st := ⟨sl, ob, nx⟩) (n_seq ha hb h1 h2) rfl hN ⟨hx, hy, trivial⟩ trivial rfl
theorem qn {t t' : TypeId} {ss : List Sh} {cs ds : List C} {as bs : List D} [TyEq P t ss] (hx : opT sl x = .v (.agg cs)) (hy : opT sl y = .v (.agg ds)) (hN : nlt d N = true) (ha : scalCs cs = some as) (hb : scalCs ds = some bs) (h1 : shB ss as = true) (h2 : shB ss bs = true) :
    NS0 P N ⟨some d, .binOp .neq t x y t', ty, ps, af, gd⟩ sl ob nx d (tB (!eqDs as bs)) ⟨d, [(x, .v (.agg cs)), (y, .v (.agg ds))], [], tB (!eqDs as bs), []⟩ := ns_mk (st := ⟨sl, ob, nx⟩) (n_sne ha hb h1 h2) rfl hN ⟨hx, hy, trivial⟩ trivial rfl
end
end Go.AM
