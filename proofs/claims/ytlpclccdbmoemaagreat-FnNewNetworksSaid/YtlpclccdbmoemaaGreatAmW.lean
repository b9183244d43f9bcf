/-
  The abstract machine, part W: kinds of elements, lengths, parts, strings.
-/
import Derived.Test.YtlpclccdbmoemaaGreatAmV
set_option linter.unusedVariables false
namespace Go.AM
open Go.RowKit
def eI (n : Int) : List D := [.i .i64 n]
def eU8 (n : Int) : List D := [.i .u8 n]
def slOk {α : Type} (xs : List α) (l h : Int) : Bool := decide (0 ≤ l ∧ l ≤ h ∧ h ≤ xs.length)
theorem ne0 {b : Int} (h : (!eqB b 0) = true) : b ≠ 0 := by rintro rfl; simp [eqB] at h
theorem wn {sl : List (Nat × T)} {k o n n' : Nat} (h : gt sl k = .v (.c (.w o n))) (hn : n = n') : gt sl k = .v (.c (.w o n')) := hn ▸ h
section
variable {P : Program} {N : Nat} {d : Tmp} {ty : TypeId} {ps : String} {af : Array Edge} {gd : Option (Nat × Bool)} {x y z : Operand} {sl : List (Nat × T)} {ob : List (Nat × Ob)} {nx : Nat}
variable {α : Type} {enc : α → List D}
theorem ldT {t : TypeId} {g : Bool} {xs : List α} {e sz by_ : Nat} [TySl P t e sz by_] (hx : opT sl x = .v (.c (.d g (.l (xs.map enc))))) (hN : nlt d N = true) :
    NS0 P N ⟨some d, .call ⟨.builtin .len, #[x], #[t]⟩, ty, ps, af, gd⟩ sl ob nx d (tI xs.length) ⟨d, [(x, .v (.c (.d g (.l (xs.map enc)))))], [], tI xs.length, []⟩ := by
  have := ld (P := P) (N := N) (d := d) (ty := ty) (ps := ps) (af := af) (gd := gd) (ob := ob) (nx := nx) (t := t) hx hN
  rwa [List.length_map] at this
theorem cdhT {t e sz by_ : Nat} {g g2 : Bool} {xs : List α} {h : Int} {hi : Operand} [ht : TySl P t e sz by_] (H : slOk xs 0 h = true) (henc : ∀ a, (enc a).length = sz) (hx : opT sl x = .v (.c (.d g (.l (xs.map enc))))) (hh : opT sl hi = .v (.c (.d g2 (.i .i64 h)))) (hN : nlt d N = true) :
    NS0 P N ⟨some d, .slice t x none (some hi) none, ty, ps, af, gd⟩ sl ob nx d (.v (.c (.d g (.l ((xs.take h.toNat).map enc))))) ⟨d, [(x, .v (.c (.d g (.l (xs.map enc))))), (hi, .v (.c (.d g2 (.i .i64 h))))], [], .v (.c (.d g (.l ((xs.take h.toNat).map enc)))), []⟩ := by
  simp only [slOk, decide_eq_true_eq] at H
  have := cdh (P := P) (N := N) (d := d) (ty := ty) (ps := ps) (af := af) (gd := gd) (ob := ob) (nx := nx) (t := t) (e := e) (sz := sz) (by_ := by_) hx hh hN (lenM henc xs) H.2.1 (by simpa using H.2.2)
  rwa [← List.map_take] at this
end
end Go.AM
