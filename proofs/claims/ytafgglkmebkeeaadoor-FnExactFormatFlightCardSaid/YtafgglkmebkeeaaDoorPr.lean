/-
  Own text: a part of the abstract machine for this seat (Pr). No statement is proved here.
-/
import Derived.Test.YtafgglkmebkeeaaDoorAmQ
import Derived.Test.YtafgglkmebkeeaaDoorAmW
set_option linter.unusedVariables false
namespace Go.AM
/-- A number within its kind's range. -/
def rgI (k : IntKind) (n : Int) : Prop := (Lit.int k n).wf = true
theorem WTs.cut {s : Sh} {ss : List Sh} {x : D} {xs : List D} (h : WTs (s :: ss) (x :: xs)) : WT s x ∧ WTs ss xs := by
  cases h with | cons h h' => exact ⟨h, h'⟩
theorem WT.rg {k : IntKind} {n : Int} (h : WT (.i k) (.i k n)) : rgI k n := by
  cases h with | i h => exact h
theorem WTL_mem {α : Type} {e : List Sh} {f : α → List D} : ∀ {xs : List α}, WTL e (xs.map f) → ∀ x ∈ xs, WTs e (f x)
  | [], _, x, hx => by cases hx
  | y :: ys, h, x, hx => by
    cases h with
    | cons h1 h2 =>
      rcases List.mem_cons.1 hx with rfl | hx
      · exact h1
      · exact WTL_mem h2 x hx
theorem WT.rl {α : Type} {e : List Sh} {f : α → List D} {xs : List α} (h : WT (.l e) (.l (xs.map f))) : ∀ x ∈ xs, WTs e (f x) := by
  cases h with | l hl h => exact WTL_mem h
theorem rg64 {n : Int} (h : rgI .i64 n) : -9223372036854775808 ≤ n ∧ n ≤ 9223372036854775807 := wf_i64 h
end Go.AM
