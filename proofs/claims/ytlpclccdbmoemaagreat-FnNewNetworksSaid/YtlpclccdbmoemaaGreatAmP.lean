/-
  The abstract machine, part P: plain lemmas for loops over lists.
-/
import Derived.Test.YtlpclccdbmoemaaGreatAmO
set_option linter.unusedVariables false
namespace Go.AM
abbrev WR (n : Int) : Int := IntKind.i64.wrap n
/-- A row that is being filled: the first k elements are there. -/
abbrev filled {α : Type} (f : α → List D) (z : List D) (l : List α) (k : Nat) : List (List D) := (l.take k).map f ++ List.replicate (l.length - k) z
end Go.AM
