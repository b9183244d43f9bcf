/-
  The abstract machine, part Z: bits and shifts.
-/
import Derived.Test.YtlpclccdbmoemaaGreatAmY
set_option linter.unusedVariables false
namespace Go.AM
open Go.RowKit
def bAnd (k : IntKind) (x y : Int) : Int := k.wrap (BitVec.ofInt k.bits x &&& BitVec.ofInt k.bits y).toNat
def bOr (k : IntKind) (x y : Int) : Int := k.wrap (BitVec.ofInt k.bits x ||| BitVec.ofInt k.bits y).toNat
def bXor (k : IntKind) (x y : Int) : Int := k.wrap (BitVec.ofInt k.bits x ^^^ BitVec.ofInt k.bits y).toNat
def bAndNot (k : IntKind) (x y : Int) : Int := k.wrap (BitVec.ofInt k.bits x &&& ~~~(BitVec.ofInt k.bits y)).toNat
def bShl (k : IntKind) (x y : Int) : Int := k.wrap (x * 2 ^ (min y.toNat k.bits))
def bShr (k : IntKind) (x y : Int) : Int := x.fdiv (2 ^ (min y.toNat k.bits))
def bitOp (op : BinOp) (k : IntKind) (a b : Int) : Option Int :=
  match op with
  | .and => some (bAnd k a b)
  | .or => some (bOr k a b)
  | .xor => some (bXor k a b)
  | .andNot => some (bAndNot k a b)
  | _ => none
def shOp (op : BinOp) (k : IntKind) (a b : Int) : Option Int :=
  match op with
  | .shl => some (bShl k a b)
  | .shr => some (bShr k a b)
  | _ => none
section
variable {P : Program} {N : Nat} {d : Tmp} {ty : TypeId} {ps : String} {af : Array Edge} {gd : Option (Nat × Bool)} {x y z : Operand} {sl : List (Nat × T)} {ob : List (Nat × Ob)} {nx : Nat}
theorem n_bit {op : BinOp} {t t' : TypeId} {g g' : Bool} {k : IntKind} {a b r : Int} (h : bitOp op k a b = some r) :
    AWN P ⟨some d, .binOp op t x y t', ty, ps, af, gd⟩ [(x, .v (.c (.d g (.i k a)))), (y, .v (.c (.d g' (.i k b))))] [] (.v (.c (.d false (.i k r)))) [] :=
  awn_pure fun E ac w hn _ => by
    have h1 := cv_int (hn x _ (.head _))
    have h2 := cv_int (hn y _ (.tail _ (.head _)))
    cases op <;> simp only [bitOp, Option.some.injEq, reduceCtorEq] at h <;> subst h <;>
      exact ⟨_, by simp [execOp, h1, h2, eqGuard, binOp, Op.intBits]; rfl, by simp [cvT, cvV, cvC, rdD, bAnd, bOr, bXor, bAndNot]⟩
theorem n_sh {op : BinOp} {t t' : TypeId} {g g' : Bool} {k k' : IntKind} {a b r : Int} (h0 : 0 ≤ b) (h : shOp op k a b = some r) :
    AWN P ⟨some d, .binOp op t x y t', ty, ps, af, gd⟩ [(x, .v (.c (.d g (.i k a)))), (y, .v (.c (.d g' (.i k' b))))] [] (.v (.c (.d false (.i k r)))) [] :=
  awn_pure fun E ac w hn _ => by
    have h1 := cv_int (hn x _ (.head _))
    have h2 := cv_int (hn y _ (.tail _ (.head _)))
    have h0' : ¬ b < 0 := by omega
    cases op <;> simp only [shOp, Option.some.injEq, reduceCtorEq] at h <;> subst h <;>
      exact ⟨_, by simp [execOp, h1, h2, eqGuard, binOp, Op.shift, h0']; rfl, by simp [cvT, cvV, cvC, rdD, bShl, bShr]⟩
theorem ib {op : BinOp} {t t' : TypeId} {g g' : Bool} {k : IntKind} {a b r : Int} (hx : opT sl x = .v (.c (.d g (.i k a)))) (hy : opT sl y = .v (.c (.d g' (.i k b)))) (hN : nlt d N = true) (h : bitOp op k a b = some r) :
    NS0 P N ⟨some d, .binOp op t x y t', ty, ps, af, gd⟩ sl ob nx d (.v (.c (.d false (.i k r)))) ⟨d, [(x, .v (.c (.d g (.i k a)))), (y, .v (.c (.d g' (.i k b))))], [], .v (.c (.d false (.i k r))), []⟩ := ns_mk (st := ⟨sl, ob, nx⟩) (n_bit h) rfl hN ⟨hx, hy, trivial⟩ trivial rfl
theorem ishT {op : BinOp} {t t' : TypeId} {g g' : Bool} {k k' : IntKind} {a b r : Int} (h0 : leB 0 b = true) (hx : opT sl x = .v (.c (.d g (.i k a)))) (hy : opT sl y = .v (.c (.d g' (.i k' b)))) (hN : nlt d N = true) (h : shOp op k a b = some r) :
    NS0 P N ⟨some d, .binOp op t x y t', ty, ps, af, gd⟩ sl ob nx d (.v (.c (.d false (.i k r)))) ⟨d, [(x, .v (.c (.d g (.i k a)))), (y, .v (.c (.d g' (.i k' b))))], [], .v (.c (.d false (.i k r))), []⟩ := ns_mk (st := ⟨sl, ob, nx⟩) (n_sh (by simpa [leB] using h0) h) rfl hN ⟨hx, hy, trivial⟩ trivial rfl
theorem ishL {op : BinOp} {t t' : TypeId} {g g' : Bool} {k k' : IntKind} {a r : Int} {b : Nat} (hx : opT sl x = .v (.c (.d g (.i k a)))) (hy : opT sl y = .v (.c (.d g' (.i k' (b : Int))))) (hN : nlt d N = true) (h : shOp op k a b = some r) :
    NS0 P N ⟨some d, .binOp op t x y t', ty, ps, af, gd⟩ sl ob nx d (.v (.c (.d false (.i k r)))) ⟨d, [(x, .v (.c (.d g (.i k a)))), (y, .v (.c (.d g' (.i k' (b : Int)))))], [], .v (.c (.d false (.i k r))), []⟩ := ns_mk (st := ⟨sl, ob, nx⟩) (n_sh (by omega) h) rfl hN ⟨hx, hy, trivial⟩ trivial rfl
end
end Go.AM
