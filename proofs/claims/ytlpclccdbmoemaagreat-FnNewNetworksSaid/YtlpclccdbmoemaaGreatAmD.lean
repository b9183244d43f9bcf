/-
  The abstract machine, part D: operations that write nothing that is there.
-/
import Derived.Test.YtlpclccdbmoemaaGreatAmC
import Derived.Laws.Strings
set_option linter.unusedVariables false
namespace Go.AM
open Go.RowKit

/-! facts on types -/
class TyU (P : Program) (t : TypeId) (d : outParam TypeDesc) : Prop where
  h : P.underlying t = some d
class TyI (P : Program) (t : TypeId) (z : outParam Value) (n : outParam Nat) (b : outParam Nat) : Prop where
  h : (P.info? t).map (fun i => (i.zero, i.size, i.bytes)) = some (some z, n, b)
/-- A type of one cell that is no struct and no array. -/
class TySc (P : Program) (t : TypeId) : Prop where
  h : ∀ w, (isAgg t).run P w = .ok false w
  n : ∃ i, P.info? t = some i ∧ i.size = 1
class TyAg (P : Program) (t : TypeId) (n : outParam Nat) : Prop where
  h : ∀ w, (isAgg t).run P w = .ok true w
  n : ∃ i, P.info? t = some i ∧ i.size = n
class TySl (P : Program) (t : TypeId) (e : outParam TypeId) (sz : outParam Nat) (by_ : outParam Nat) : Prop where
  u : P.underlying t = some (.slice e)
  i : ∃ i z, P.info? e = some i ∧ i.size = sz ∧ i.bytes = by_ ∧ i.zero = some z ∧ z.cells.size = sz
  p : 0 < sz
class TyF (P : Program) (t : TypeId) (f : Nat) (off : outParam Nat) (ft : outParam TypeId) : Prop where
  h : ∃ fs fd, P.underlying t = some (.struct fs) ∧ fs[f]? = some fd ∧ fd.offset = off ∧ fd.type = ft ∧ ∃ i, P.info? ft = some i ∧ i.size ≠ 0
class TyZ (P : Program) (t : TypeId) (zs : outParam (List C)) : Prop where
  h : ∃ i z, P.info? t = some i ∧ i.zero = some z ∧ z.cells.toList.map constC = zs
theorem sizeOf_run {P : Program} {t : TypeId} {i : TypeInfo} (h : P.info? t = some i) (w : World) : (sizeOf t).run P w = .ok i.size w := by
  simp [sizeOf, typeInfo, h]

section
variable {P : Program} {d : Option Tmp} {ty : TypeId} {ps : String} {af : Array Edge} {gd : Option (Nat × Bool)} {x y z : Operand}

theorem n_move {t : T} : AWN P ⟨d, .move x, ty, ps, af, gd⟩ [(x, t)] [] t [] :=
  awn_pure fun E a w hn _ => ⟨a.eval x, by simp [execOp], hn x t (.head _)⟩
theorem n_assign {t : T} : AWN P ⟨d, .assign x, ty, ps, af, gd⟩ [(x, t)] [] t [] :=
  awn_pure fun E a w hn _ => ⟨a.eval x, by simp [execOp], hn x t (.head _)⟩
theorem cv_int {E : Env} {w : World} {g : Bool} {k : IntKind} {n : Int} {u : Value} (h : cvT E w (.v (.c (.d g (.i k n)))) u) : u = .int k n := by simpa [cvT, cvV, cvC, rdD] using h
theorem cv_bool {E : Env} {w : World} {g : Bool} {b : Bool} {u : Value} (h : cvT E w (.v (.c (.d g (.b b)))) u) : u = .bool b := by simpa [cvT, cvV, cvC, rdD] using h
theorem cv_str {E : Env} {w : World} {g : Bool} {s : ByteArray} {u : Value} (h : cvT E w (.v (.c (.d g (.str s)))) u) : u = .string s := by simpa [cvT, cvV, cvC, rdD] using h
theorem n_pick_true {g : Bool} {t : T} : AWN P ⟨d, .pick x y z, ty, ps, af, gd⟩ [(x, .v (.c (.d g (.b true)))), (y, t)] [] t [] :=
  awn_pure fun E a w hn _ => ⟨a.eval y, by
    have h := cv_bool (hn x _ (.head _))
    simp [execOp, asBool, h], hn y t (.tail _ (.head _))⟩
theorem n_pick_false {g : Bool} {t : T} : AWN P ⟨d, .pick x y z, ty, ps, af, gd⟩ [(x, .v (.c (.d g (.b false)))), (z, t)] [] t [] :=
  awn_pure fun E a w hn _ => ⟨a.eval z, by
    have h := cv_bool (hn x _ (.head _))
    simp [execOp, asBool, h], hn z t (.tail _ (.head _))⟩

/-- Tests, kept shut. -/
@[irreducible] def ltB (a b : Int) : Bool := decide (a < b)
@[irreducible] def leB (a b : Int) : Bool := decide (a ≤ b)
@[irreducible] def eqB (a b : Int) : Bool := decide (a = b)
@[irreducible] def strB (a b : ByteArray) : Bool := a.toList == b.toList
@[simp] theorem ltB_t {a b : Int} : ltB a b = true ↔ a < b := by simp [ltB]
@[simp] theorem ltB_f {a b : Int} : ltB a b = false ↔ b ≤ a := by simp [ltB]
@[simp] theorem leB_t {a b : Int} : leB a b = true ↔ a ≤ b := by simp [leB]
@[simp] theorem leB_f {a b : Int} : leB a b = false ↔ b < a := by simp [leB]
@[simp] theorem eqB_t {a b : Int} : eqB a b = true ↔ a = b := by simp [eqB]
@[simp] theorem eqB_f {a b : Int} : eqB a b = false ↔ a ≠ b := by simp [eqB]
theorem toList_inj {a b : ByteArray} (h : a.toList = b.toList) : a = b := by
  have := congrArg List.toArray h
  simp only [ByteArray.toList_eq, Array.toArray_toList] at this
  exact ByteArray.ext this
@[simp] theorem strB_t {a b : ByteArray} : strB a b = true ↔ a = b := by simp [strB]; exact ⟨toList_inj, fun h => by rw [h]⟩
@[simp] theorem strB_f {a b : ByteArray} : strB a b = false ↔ a ≠ b := by
  rw [← Bool.not_eq_true, strB_t]
theorem lt_dec (a b : Int) : decide (a < b) = ltB a b := by simp [ltB]
theorem le_dec (a b : Int) : decide (a ≤ b) = leB a b := by simp [leB]
theorem eq_dec (a b : Int) : decide (a = b) = eqB a b := by simp [eqB]
theorem beq_dec (a b : Int) : (a == b) = eqB a b := by rw [← eq_dec]; rfl
/-- What an operator on two integers of one kind gives. -/
def intOp (op : BinOp) (k : IntKind) (a b : Int) : Option D :=
  match op with
  | .add => some (.i k (k.wrap (a + b)))
  | .sub => some (.i k (k.wrap (a - b)))
  | .mul => some (.i k (k.wrap (a * b)))
  | .eql => some (.b (eqB a b))
  | .neq => some (.b (!eqB a b))
  | .lss => some (.b (ltB a b))
  | .leq => some (.b (leB a b))
  | .gtr => some (.b (ltB b a))
  | .geq => some (.b (leB b a))
  | _ => none
theorem n_int {op : BinOp} {t t' : TypeId} {g g' : Bool} {k : IntKind} {a b : Int} {r : D} (h : intOp op k a b = some r) :
    AWN P ⟨d, .binOp op t x y t', ty, ps, af, gd⟩ [(x, .v (.c (.d g (.i k a)))), (y, .v (.c (.d g' (.i k b))))] [] (.v (.c (.d false r))) [] :=
  awn_pure fun E ac w hn _ => by
    have h1 := cv_int (hn x _ (.head _))
    have h2 := cv_int (hn y _ (.tail _ (.head _)))
    cases op <;> simp only [intOp, Option.some.injEq, reduceCtorEq] at h <;> subst h <;>
      exact ⟨_, by simp [execOp, h1, h2, eqGuard, binOp, Op.intArith, Op.intCmp]; rfl, by simp [cvT, cvV, cvC, rdD, bne, beq_dec, lt_dec, le_dec]⟩
theorem n_rem {t t' : TypeId} {g g' : Bool} {k : IntKind} {a b : Int} (h : b ≠ 0) :
    AWN P ⟨d, .binOp .rem t x y t', ty, ps, af, gd⟩ [(x, .v (.c (.d g (.i k a)))), (y, .v (.c (.d g' (.i k b))))] [] (.v (.c (.d false (.i k (a.tmod b))))) [] :=
  awn_pure fun E ac w hn _ => by
    have h1 := cv_int (hn x _ (.head _))
    have h2 := cv_int (hn y _ (.tail _ (.head _)))
    exact ⟨_, by simp [execOp, h1, h2, eqGuard, binOp, Op.intDiv, h]; rfl, by simp [cvT, cvV, cvC, rdD]⟩
theorem n_str_eq {t t' : TypeId} {g g' : Bool} {a b : ByteArray} :
    AWN P ⟨d, .binOp .eql t x y t', ty, ps, af, gd⟩ [(x, .v (.c (.d g (.str a)))), (y, .v (.c (.d g' (.str b))))] [] (.v (.c (.d false (.b (strB a b))))) [] :=
  awn_pure fun E ac w hn _ => by
    have h1 := cv_str (hn x _ (.head _))
    have h2 := cv_str (hn y _ (.tail _ (.head _)))
    exact ⟨_, by simp [execOp, h1, h2, eqGuard, binOp, Op.stringOp]; rfl, by simp [cvT, cvV, cvC, rdD, strB]⟩
theorem n_str_ne {t t' : TypeId} {g g' : Bool} {a b : ByteArray} :
    AWN P ⟨d, .binOp .neq t x y t', ty, ps, af, gd⟩ [(x, .v (.c (.d g (.str a)))), (y, .v (.c (.d g' (.str b))))] [] (.v (.c (.d false (.b (!strB a b))))) [] :=
  awn_pure fun E ac w hn _ => by
    have h1 := cv_str (hn x _ (.head _))
    have h2 := cv_str (hn y _ (.tail _ (.head _)))
    exact ⟨_, by simp [execOp, h1, h2, eqGuard, binOp, Op.stringOp]; rfl, by simp [cvT, cvV, cvC, rdD, strB]⟩
theorem n_not {t : TypeId} {g : Bool} {b : Bool} : AWN P ⟨d, .unOp .not t x, ty, ps, af, gd⟩ [(x, .v (.c (.d g (.b b))))] [] (.v (.c (.d false (.b (!b))))) [] :=
  awn_pure fun E ac w hn _ => by
    have h1 := cv_bool (hn x _ (.head _))
    exact ⟨_, by simp [execOp, h1, Op.unary]; rfl, by simp [cvT, cvV, cvC, rdD]⟩
theorem n_neg {t : TypeId} {g : Bool} {k : IntKind} {n : Int} : AWN P ⟨d, .unOp .neg t x, ty, ps, af, gd⟩ [(x, .v (.c (.d g (.i k n))))] [] (.v (.c (.d false (.i k (k.wrap (0 - n)))))) [] :=
  awn_pure fun E ac w hn _ => by
    have h1 := cv_int (hn x _ (.head _))
    exact ⟨_, by simp [execOp, h1, Op.unary, Op.intArith]; rfl, by simp [cvT, cvV, cvC, rdD]⟩
theorem n_conv {t t' : TypeId} {ds : TypeDesc} {g : Bool} {k k' : IntKind} {n : Int} [hs : TyU P t ds] [hd : TyU P t' (.int k')] :
    AWN P ⟨d, .convert t t' x, ty, ps, af, gd⟩ [(x, .v (.c (.d g (.i k n))))] [] (.v (.c (.d false (.i k' (k'.wrap n))))) [] :=
  awn_pure fun E ac w hn _ => by
    have h1 := cv_int (hn x _ (.head _))
    refine ⟨.int k' (k'.wrap n), ?_, by simp [cvT, cvV, cvC, rdD]⟩
    simp only [execOp, h1, convert]
    simp [underlying, hs.h, hd.h, Conv.intToInt]
theorem n_extract {ts : List V} {i : Nat} {v : V} (h : ts[i]? = some v) : AWN P ⟨d, .extract x i, ty, ps, af, gd⟩ [(x, .tup ts)] [] (.v v) [] :=
  awn_pure fun E ac w hn _ => by
    obtain ⟨arr, h1, h2⟩ := hn x _ (.head _)
    have key : ∀ (ts : List V) (us : List Value) (i : Nat), VV E w ts us → ts[i]? = some v → ∃ u, us[i]? = some u ∧ cvV E w v u := by
      intro ts
      induction ts with
      | nil => intro us i h9 hi; simp at hi
      | cons t ts ih =>
        intro us i h9 hi
        cases us with
        | nil => exact h9.elim
        | cons u us =>
          cases i with
          | zero => simp at hi; subst hi; exact ⟨u, rfl, h9.1⟩
          | succ i => exact ih us i h9.2 (by simpa using hi)
    obtain ⟨u, hu, hv⟩ := key ts arr.toList i h2 h
    exact ⟨u, by simp [execOp, h1, Instr.extract, show arr[i]? = some u by simpa using hu], hv⟩
theorem n_nilCheck_p {o k : Nat} : AWN P ⟨d, .nilCheck x, ty, ps, af, gd⟩ [(x, .v (.c (.p o k)))] [] (.v (.c (.p o k))) [] :=
  awn_pure fun E ac w hn _ => by
    have h := hn x _ (.head _)
    obtain ⟨b, c, hr, hu⟩ := h
    exact ⟨.pointer (some ⟨b, k, none⟩), by simp [execOp, hu], b, c, hr, rfl⟩
/-! len -/
theorem n_len_w {t : TypeId} {o n e sz by_ : Nat} [ht : TySl P t e sz by_] : AWN P ⟨d, .call ⟨.builtin .len, #[x], #[t]⟩, ty, ps, af, gd⟩ [(x, .v (.c (.w o n)))] [] (tI n) [] :=
  awn_pure fun E ac w hn _ => by
    obtain ⟨b, c, hr, hu⟩ := hn x _ (.head _)
    exact ⟨_, by simp [execOp, resolve, invoke, builtin, hu, Builtin.len_, underlying, ht.u, goInt]; rfl, by simp [cvT, cvV, cvC, rdD]⟩
theorem n_len_s {t : TypeId} {o z off n e sz by_ : Nat} [ht : TySl P t e sz by_] : AWN P ⟨d, .call ⟨.builtin .len, #[x], #[t]⟩, ty, ps, af, gd⟩ [(x, .v (.c (.s o z off n)))] [] (tI n) [] :=
  awn_pure fun E ac w hn _ => by
    obtain ⟨A, c, b, k, hr, hu, _⟩ := hn x _ (.head _)
    exact ⟨_, by simp [execOp, resolve, invoke, builtin, hu, Builtin.len_, underlying, ht.u, goInt]; rfl, by simp [cvT, cvV, cvC, rdD]⟩
theorem n_len_d {t : TypeId} {g : Bool} {xs : List (List D)} {e sz by_ : Nat} [ht : TySl P t e sz by_] : AWN P ⟨d, .call ⟨.builtin .len, #[x], #[t]⟩, ty, ps, af, gd⟩ [(x, .v (.c (.d g (.l xs))))] [] (tI xs.length) [] :=
  awn_pure fun E ac w hn _ => by
    have h := hn x _ (.head _)
    simp only [cvT, cvV, cvC, rdD] at h
    obtain ⟨A, c, hu, _⟩ := h
    exact ⟨_, by simp [execOp, resolve, invoke, builtin, hu, Builtin.len_, underlying, ht.u, goInt]; rfl, by simp [cvT, cvV, cvC, rdD]⟩
theorem n_len_nil {t : TypeId} {e sz by_ : Nat} [ht : TySl P t e sz by_] : AWN P ⟨d, .call ⟨.builtin .len, #[x], #[t]⟩, ty, ps, af, gd⟩ [(x, .v (.c .nil))] [] (tI 0) [] :=
  awn_pure fun E ac w hn _ => by
    have hu : ac.eval x = .slice none 0 0 := hn x _ (.head _)
    exact ⟨_, by simp [execOp, resolve, invoke, builtin, hu, Builtin.len_, underlying, ht.u, goInt]; rfl, by simp [cvT, cvV, cvC, rdD]⟩
theorem n_len_str {t : TypeId} {g : Bool} {s : ByteArray} [ht : TyU P t .string] : AWN P ⟨d, .call ⟨.builtin .len, #[x], #[t]⟩, ty, ps, af, gd⟩ [(x, .v (.c (.d g (.str s))))] [] (tI s.size) [] :=
  awn_pure fun E ac w hn _ => by
    have hu := cv_str (hn x _ (.head _))
    exact ⟨_, by simp [execOp, resolve, invoke, builtin, hu, Builtin.len_, underlying, ht.h, goInt]; rfl, by simp [cvT, cvV, cvC, rdD]⟩
/-! addresses -/
theorem add_at (b k j : Nat) : (⟨b, k, none⟩ : Addr).add j = ⟨b, k + j, none⟩ := by
  unfold Addr.add; split
  · rename_i h; subst h; rfl
  · rfl
theorem fieldAt_run {t : TypeId} {f off ft : Nat} [h : TyF P t f off ft] (b k : Nat) (w : World) : (Instr.fieldAt t (.pointer (some ⟨b, k, none⟩)) f).run P w = .ok (.pointer (some ⟨b, k + off, none⟩)) w := by
  obtain ⟨fs, fd, h1, h2, rfl, rfl, i, h3, h4⟩ := h.h
  simp [Instr.fieldAt, underlying, h1, h2, Instr.sureAddr, fieldPlace, sizeOf_run h3, h4, add_at]
theorem n_field_p {t : TypeId} {f off ft : Nat} {o k : Nat} [h : TyF P t f off ft] : AWN P ⟨d, .fieldAddr t x f, ty, ps, af, gd⟩ [(x, .v (.c (.p o k)))] [] (.v (.c (.p o (k + off)))) [] :=
  awn_pure fun E ac w hn _ => by
    obtain ⟨b, c, hr, hu⟩ := hn x _ (.head _)
    exact ⟨.pointer (some ⟨b, k + off, none⟩), by simp [execOp, hu, fieldAt_run], b, c, hr, rfl⟩
theorem n_field_e {t : TypeId} {f off ft : Nat} {o sz i j : Nat} [h : TyF P t f off ft] : AWN P ⟨d, .fieldAddr t x f, ty, ps, af, gd⟩ [(x, .v (.c (.e o sz i j)))] [] (.v (.c (.e o sz i (j + off)))) [] :=
  awn_pure fun E ac w hn _ => by
    obtain ⟨b, c, hr, hu⟩ := hn x _ (.head _)
    exact ⟨_, by simp [execOp, hu, fieldAt_run]; rfl, b, c, hr, by rw [Nat.add_assoc]⟩
theorem n_field_q {t : TypeId} {f off ft : Nat} {g : Bool} {e : List D} {j : Nat} [h : TyF P t f off ft] : AWN P ⟨d, .fieldAddr t x f, ty, ps, af, gd⟩ [(x, .v (.c (.q g e j)))] [] (.v (.c (.q g e (j + off)))) [] :=
  awn_pure fun E ac w hn _ => by
    obtain ⟨b, k, hu, hr⟩ := hn x _ (.head _)
    exact ⟨_, by simp [execOp, hu, fieldAt_run]; rfl, b, k, by rw [Nat.add_assoc], hr⟩
theorem indexAt_run {t : TypeId} {e sz by_ : Nat} [ht : TySl P t e sz by_] {kd : IntKind} {b k len cap : Nat} {i : Int} (h0 : 0 ≤ i) (h1 : i < len) (w : World) :
    (Instr.indexAt t (.slice (some ⟨b, k, none⟩) len cap) (.int kd i)).run P w = .ok (.pointer (some ⟨b, k + i.toNat * sz, none⟩)) w := by
  obtain ⟨ii, z, h2, h3, _⟩ := ht.i
  have := sizeOf_run h2 w
  simp [Instr.indexAt, asIntOf, underlying, ht.u, h0, h1, this, h3, add_at]
theorem n_index_w {t : TypeId} {e sz by_ : Nat} {g : Bool} {kd : IntKind} {o n : Nat} {i : Int} [ht : TySl P t e sz by_] (h0 : 0 ≤ i) (h1 : i < n) :
    AWN P ⟨d, .indexAddr t x y, ty, ps, af, gd⟩ [(x, .v (.c (.w o n))), (y, .v (.c (.d g (.i kd i))))] [] (.v (.c (.e o sz i.toNat 0))) [] :=
  awn_pure fun E ac w hn _ => by
    obtain ⟨b, c, hr, hu⟩ := hn x _ (.head _)
    have h2 := cv_int (hn y _ (.tail _ (.head _)))
    exact ⟨_, by simp [execOp, hu, h2, indexAt_run h0 h1]; rfl, b, c, hr, by simp⟩
theorem n_index_s {t : TypeId} {e sz by_ : Nat} {g : Bool} {kd : IntKind} {o off n : Nat} {i : Int} [ht : TySl P t e sz by_] (h0 : 0 ≤ i) (h1 : i < n) :
    AWN P ⟨d, .indexAddr t x y, ty, ps, af, gd⟩ [(x, .v (.c (.s o sz off n))), (y, .v (.c (.d g (.i kd i))))] [] (.v (.c (.e o sz (off + i.toNat) 0))) [] :=
  awn_pure fun E ac w hn _ => by
    obtain ⟨A, c, b, k, hr, hu, _, hA⟩ := hn x _ (.head _)
    have h2 := cv_int (hn y _ (.tail _ (.head _)))
    obtain rfl : A = some ⟨b, off * sz, none⟩ := hA.resolve_left (by omega)
    exact ⟨_, by simp [execOp, hu, h2, indexAt_run h0 h1]; rfl, b, k, hr, by simp [Nat.add_mul]⟩
theorem n_index_d {t : TypeId} {e sz by_ : Nat} {g g' : Bool} {kd : IntKind} {xs : List (List D)} {i : Int} {el : List D} [ht : TySl P t e sz by_] (h0 : 0 ≤ i) (he : xs[i.toNat]? = some el) (hs : ∀ e ∈ xs, e.length = sz) :
    AWN P ⟨d, .indexAddr t x y, ty, ps, af, gd⟩ [(x, .v (.c (.d g (.l xs)))), (y, .v (.c (.d g' (.i kd i))))] [] (.v (.c (.q g el 0))) [] :=
  awn_pure fun E ac w hn _ => by
    have h := hn x _ (.head _)
    simp only [cvT, cvV, cvC, rdD] at h
    obtain ⟨A, c, hu, _, h⟩ := h
    have h2 := cv_int (hn y _ (.tail _ (.head _)))
    have hl : i.toNat < xs.length := (List.getElem?_eq_some_iff.1 he).1
    rcases h with h | ⟨b, off, rfl, hb, h⟩
    · subst h; simp at he
    · exact ⟨_, by simp [execOp, hu, h2, indexAt_run (kd := kd) h0 (by omega : i < ((xs.length : Nat) : Int))]; rfl, b, off + i.toNat * sz, by simp, hb, rdLL_at h hs he⟩
/-! loads -/
/-- Data read out of a row or out of data. -/
def ldC (g : Bool) : D → C
  | .l xs => .d g (.l xs)
  | x => .d false x
theorem ldC_ok {E : Env} {w : World} {g : Bool} {x : D} {u : Value} (h : rdD w (E.H g) x u) : cvC E w (ldC g x) u := by
  cases x <;> simp only [ldC, cvC] <;> first | exact h | (simp only [rdD] at h ⊢; exact h)
theorem loadAt_one {t : TypeId} [h : TySc P t] {b k : Nat} {u : Value} {w : World} (hc : w.cell? ⟨b, k, none⟩ = some u) : (Instr.loadAt t (.pointer (some ⟨b, k, none⟩))).run P w = .ok u w := by
  simp [Instr.loadAt, Instr.sureAddr, loadVar, h.h, load, Sem.run, hc]
theorem loadCellsFrom_run {b k : Nat} {w : World} : ∀ (us : List Value) (i : Nat) (acc : Array Value), (∀ j u, us[j]? = some u → w.cell? ⟨b, k + (i + j), none⟩ = some u) →
    (loadCellsFrom ⟨b, k, none⟩ i us.length acc).run P w = .ok (acc ++ us.toArray) w
  | [], i, acc, _ => by simp [loadCellsFrom]
  | u :: us, i, acc, h => by
    have h0 := h 0 u rfl
    have ih := loadCellsFrom_run us (i + 1) (acc.push u) (fun j v hj => by have := h (j + 1) v (by simpa using hj); rwa [show i + 1 + j = i + (j + 1) from by omega])
    simp only [List.length_cons, loadCellsFrom, load, add_at]
    simp [Sem.run, show w.cell? ⟨b, k + i, none⟩ = some u by simpa using h0, ih]
theorem loadAt_agg {t : TypeId} {n : Nat} [h : TyAg P t n] {b k : Nat} {us : List Value} {w : World} (hl : us.length = n) (hc : ∀ j u, us[j]? = some u → w.cell? ⟨b, k + j, none⟩ = some u) :
    (Instr.loadAt t (.pointer (some ⟨b, k, none⟩))).run P w = .ok (.agg us.toArray) w := by
  obtain ⟨i, hi, hn⟩ := h.n
  have := loadCellsFrom_run (P := P) (b := b) (k := k) (w := w) us 0 #[] (fun j u hj => by simpa using hc j u hj)
  simp [Instr.loadAt, Instr.sureAddr, loadVar, h.h, sizeOf_run hi, hn, ← hl, loadCells, this]
theorem CV_at {E : Env} {w : World} : ∀ {cs : List C} {us : List Value} {k : Nat} {c : C}, CV E w cs us → cs[k]? = some c → ∃ u, us[k]? = some u ∧ cvC E w c u
  | c :: cs, u :: us, 0, c', h, hk => by simp at hk; subst hk; exact ⟨u, rfl, h.1⟩
  | c :: cs, u :: us, k + 1, c', h, hk => by
    obtain ⟨v, hv, h'⟩ := CV_at (k := k) h.2 (by simpa using hk)
    exact ⟨v, by simpa using hv, h'⟩
  | [], _, _, _, _, hk => by simp at hk
  | _ :: _, [], _, _, h, _ => h.elim
theorem CV_length {E : Env} {w : World} : ∀ {cs : List C} {us : List Value}, CV E w cs us → us.length = cs.length
  | [], [], _ => rfl
  | c :: cs, u :: us, h => by simp [CV_length h.2]
  | [], _ :: _, h => h.elim
  | _ :: _, [], h => h.elim
theorem CV_drop {E : Env} {w : World} : ∀ {cs : List C} {us : List Value} (k : Nat), CV E w cs us → CV E w (cs.drop k) (us.drop k)
  | cs, us, 0, h => by simpa using h
  | [], [], k + 1, h => by simpa using h
  | c :: cs, u :: us, k + 1, h => by simpa using CV_drop k h.2
  | [], _ :: _, _ + 1, h => h.elim
  | _ :: _, [], _ + 1, h => h.elim
theorem CV_take {E : Env} {w : World} : ∀ {cs : List C} {us : List Value} (k : Nat), CV E w cs us → CV E w (cs.take k) (us.take k)
  | cs, us, 0, h => by simp [CV]
  | [], [], k + 1, h => by simp [CV]
  | c :: cs, u :: us, k + 1, h => by rw [List.take_succ_cons, List.take_succ_cons]; exact ⟨h.1, CV_take k h.2⟩
  | [], _ :: _, _ + 1, h => h.elim
  | _ :: _, [], _ + 1, h => h.elim
theorem cell_var {w : World} {b : Nat} {arr : Array Value} {ty' : TypeId} {k : Nat} (h : w.heap[b]? = some (.cells arr ty' (0, 0))) : w.cell? ⟨b, k, none⟩ = arr[k]? := by
  simp [World.cell?, h]
theorem n_load_p {t : TypeId} {o k : Nat} {vt : TypeId} {cs : List C} {c : C} [ht : TySc P t] (hc : cs[k]? = some c) :
    AWN P ⟨d, .load t x, ty, ps, af, gd⟩ [(x, .v (.c (.p o k)))] [(o, .var vt cs)] (.v (.c c)) [] :=
  awn_pure fun E ac w hn hb => by
    obtain ⟨b, c', hr, hu⟩ := hn x _ (.head _)
    obtain ⟨b', c'', arr, hr', hh, hcv, _⟩ := hb o _ (.head _)
    rw [hr] at hr'; cases hr'
    obtain ⟨u, hu', hcu⟩ := CV_at hcv hc
    exact ⟨u, by simp [execOp, hu, loadAt_one (P := P) (show w.cell? ⟨b, k, none⟩ = some u by rw [cell_var hh]; simpa using hu')], hcu⟩
theorem n_load_p_agg {t : TypeId} {n : Nat} {o k : Nat} {vt : TypeId} {cs : List C} [ht : TyAg P t n] (hk : k + n ≤ cs.length) :
    AWN P ⟨d, .load t x, ty, ps, af, gd⟩ [(x, .v (.c (.p o k)))] [(o, .var vt cs)] (.v (.agg ((cs.drop k).take n))) [] :=
  awn_pure fun E ac w hn hb => by
    obtain ⟨b, c', hr, hu⟩ := hn x _ (.head _)
    obtain ⟨b', c'', arr, hr', hh, hcv, _⟩ := hb o _ (.head _)
    rw [hr] at hr'; cases hr'
    have hl := CV_length hcv
    refine ⟨.agg ((arr.toList.drop k).take n).toArray, by
      simp [execOp, hu, loadAt_agg (P := P) (t := t) (n := n) (b := b) (k := k) (us := (arr.toList.drop k).take n) (w := w) (by simp [hl] at *; omega) (fun j u hj => by
        rw [cell_var hh]
        rw [List.getElem?_take] at hj
        split at hj
        · simpa [List.getElem?_drop] using hj
        · cases hj)], _, rfl, CV_take n (CV_drop k hcv)⟩
theorem n_load_q {t : TypeId} {g : Bool} {e : List D} {j : Nat} {xd : D} [ht : TySc P t] (hc : e[j]? = some xd) : AWN P ⟨d, .load t x, ty, ps, af, gd⟩ [(x, .v (.c (.q g e j)))] [] (.v (.c (ldC g xd))) [] :=
  awn_pure fun E ac w hn hb => by
    obtain ⟨b, k, hu, hF, hr⟩ := hn x _ (.head _)
    obtain ⟨u, hc, hd⟩ := rdL_at hr hc
    exact ⟨u, by simp [execOp, hu, loadAt_one (P := P) hc], ldC_ok hd⟩
theorem rdL_list {w : World} {F : Nat → Prop} : ∀ {e : List D} {b k : Nat}, rdL w F e b k → ∃ us : List Value, us.length = e.length ∧ (∀ (j : Nat) (u : Value), us[j]? = some u → w.cell? ⟨b, k + j, none⟩ = some u) ∧ ∀ (j : Nat) (xd : D), e[j]? = some xd → ∃ u, us[j]? = some u ∧ rdD w F xd u
  | [], b, k, _ => ⟨[], rfl, by simp, by simp⟩
  | x :: e, b, k, h => by
    rw [rdL] at h
    obtain ⟨⟨u, hc, hd⟩, h⟩ := h
    obtain ⟨us, h1, h2, h3⟩ := rdL_list h
    refine ⟨u :: us, by simp [h1], fun j v hj => ?_, fun j xd hj => ?_⟩
    · cases j with
      | zero => simp at hj; subst hj; exact hc
      | succ j => have := h2 j v (by simpa using hj); rwa [show k + 1 + j = k + (j + 1) from by omega] at this
    · cases j with
      | zero => simp at hj; subst hj; exact ⟨u, rfl, hd⟩
      | succ j => obtain ⟨v, h4, h5⟩ := h3 j xd (by simpa using hj); exact ⟨v, by simpa using h4, h5⟩
theorem CV_map_ld {E : Env} {w : World} {g : Bool} : ∀ {e : List D} {us : List Value}, us.length = e.length → (∀ (j : Nat) (xd : D), e[j]? = some xd → ∃ u, us[j]? = some u ∧ rdD w (E.H g) xd u) → CV E w (e.map (ldC g)) us
  | [], [], _, _ => trivial
  | x :: e, u :: us, hl, h => by
    obtain ⟨v, h1, h2⟩ := h 0 x rfl
    simp at h1; subst h1
    exact ⟨ldC_ok h2, CV_map_ld (by simpa using hl) fun j xd hj => by
      obtain ⟨v, h3, h4⟩ := h (j + 1) xd (by simpa using hj)
      exact ⟨v, by simpa using h3, h4⟩⟩
  | [], _ :: _, hl, _ => by simp at hl
  | _ :: _, [], hl, _ => by simp at hl
/-- A part of an element, as a struct. -/
theorem rdL_part {w : World} {F : Nat → Prop} {e : List D} {b k : Nat} (h : rdL w F e b k) (j n : Nat) : rdL w F ((e.drop j).take n) b (k + j) :=
  rdL_of fun i xd hi => by
    rw [List.getElem?_take] at hi
    split at hi
    · rw [List.getElem?_drop] at hi
      have := rdL_at h hi
      rwa [← Nat.add_assoc] at this
    · cases hi
theorem n_load_q_agg {t : TypeId} {n : Nat} {g : Bool} {e : List D} {j : Nat} [ht : TyAg P t n] (hj : j + n ≤ e.length) :
    AWN P ⟨d, .load t x, ty, ps, af, gd⟩ [(x, .v (.c (.q g e j)))] [] (.v (.agg (((e.drop j).take n).map (ldC g)))) [] :=
  awn_pure fun E ac w hn hb => by
    obtain ⟨b, k, hu, hF, hr⟩ := hn x _ (.head _)
    obtain ⟨us, h1, h2, h3⟩ := rdL_list (rdL_part hr j n)
    exact ⟨.agg us.toArray, by simp [execOp, hu, loadAt_agg (P := P) (t := t) (n := n) (us := us) (by rw [h1]; simp; omega) h2], _, rfl, CV_map_ld h1 h3⟩
theorem n_load_e {t : TypeId} {o sz i j : Nat} {rt : TypeId} {els : List (List D)} {g m : Bool} {el : List D} {xd : D} [ht : TySc P t] (he : els[i]? = some el) (hc : el[j]? = some xd) :
    AWN P ⟨d, .load t x, ty, ps, af, gd⟩ [(x, .v (.c (.e o sz i j)))] [(o, .row rt sz els g m)] (.v (.c (ldC g xd))) [] :=
  awn_pure fun E ac w hn hb => by
    obtain ⟨b, c', hr, hu⟩ := hn x _ (.head _)
    obtain ⟨b', c'', arr, hr', hh, h1, h2, h3, h4, h5, _⟩ := hb o _ (.head _)
    rw [hr] at hr'; cases hr'
    obtain ⟨u, hc, hd⟩ := rdL_at (rdLL_at h5 h4 he) hc
    exact ⟨u, by simp [execOp, hu, loadAt_one (P := P) (t := t) (show w.cell? ⟨b, i * sz + j, none⟩ = some u by simpa using hc)], ldC_ok hd⟩
theorem n_load_e_agg {t : TypeId} {n : Nat} {o sz i j : Nat} {rt : TypeId} {els : List (List D)} {g m : Bool} {el : List D} [ht : TyAg P t n] (he : els[i]? = some el) (hj : j + n ≤ el.length) :
    AWN P ⟨d, .load t x, ty, ps, af, gd⟩ [(x, .v (.c (.e o sz i j)))] [(o, .row rt sz els g m)] (.v (.agg (((el.drop j).take n).map (ldC g)))) [] :=
  awn_pure fun E ac w hn hb => by
    obtain ⟨b, c', hr, hu⟩ := hn x _ (.head _)
    obtain ⟨b', c'', arr, hr', hh, h1, h2, h3, h4, h5, _⟩ := hb o _ (.head _)
    rw [hr] at hr'; cases hr'
    obtain ⟨us, h6, h7, h8⟩ := rdL_list (rdL_part (rdLL_at h5 h4 he) j n)
    exact ⟨.agg us.toArray, by simp [execOp, hu, loadAt_agg (P := P) (t := t) (n := n) (b := b) (k := i * sz + j) (us := us) (by rw [h6]; simp; omega) (fun j' u hj' => by have := h7 j' u hj'; simpa using this)], _, rfl, CV_map_ld h6 h8⟩
/-! a field of a struct value; a byte of a string -/
theorem n_fieldv {t : TypeId} {f off ft : Nat} {cs : List C} {c : C} [h : TyF P t f off ft] [ht : TySc P ft] (hc : cs[off]? = some c) : AWN P ⟨d, .field t x f, ty, ps, af, gd⟩ [(x, .v (.agg cs))] [] (.v (.c c)) [] :=
  awn_pure fun E ac w hn hb => by
    obtain ⟨arr, hu, hcv⟩ := hn x _ (.head _)
    obtain ⟨u, hu', hcu⟩ := CV_at hcv hc
    obtain ⟨fs, fd, h1, h2, rfl, rfl, i, h3, h4⟩ := h.h
    exact ⟨u, by simp [execOp, hu, Instr.field, underlying, h1, h2, asAgg, part, ht.h, show arr[fd.offset]? = some u by simpa using hu'], hcu⟩
theorem n_fieldv_agg {t : TypeId} {f off ft n : Nat} {cs : List C} [h : TyF P t f off ft] [ht : TyAg P ft n] : AWN P ⟨d, .field t x f, ty, ps, af, gd⟩ [(x, .v (.agg cs))] [] (.v (.agg ((cs.drop off).take n))) [] :=
  awn_pure fun E ac w hn hb => by
    obtain ⟨arr, hu, hcv⟩ := hn x _ (.head _)
    obtain ⟨fs, fd, h1, h2, rfl, rfl, i, h3, h4⟩ := h.h
    obtain ⟨i', h5, h6⟩ := ht.n
    refine ⟨.agg (arr.extract fd.offset (fd.offset + n)), by simp [execOp, hu, Instr.field, underlying, h1, h2, asAgg, part, ht.h, sizeOf_run h5, h6], _, rfl, ?_⟩
    have := CV_take n (CV_drop fd.offset hcv)
    rw [Array.toList_extract, List.extract_eq_take_drop]
    simpa using this
end
end Go.AM
