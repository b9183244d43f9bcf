/-
  The abstract machine, part S: fields of data, plain lemmas for scans.
-/
import Derived.Test.YtlpclccdbmoemaaGreatAmR
set_option linter.unusedVariables false
namespace Go.AM
def fi (e : List D) (j : Nat) : Int := match e[j]? with | some (.i _ n) => n | _ => 0
def fb (e : List D) (j : Nat) : Bool := match e[j]? with | some (.b n) => n | _ => false
def fs (e : List D) (j : Nat) : ByteArray := match e[j]? with | some (.str n) => n | _ => ⟨#[]⟩
def fl (e : List D) (j : Nat) : List (List D) := match e[j]? with | some (.l n) => n | _ => []
@[simp] theorem fi_0 {k : IntKind} {n : Int} {r : List D} : fi (.i k n :: r) 0 = n := rfl
@[simp] theorem fb_0 {n : Bool} {r : List D} : fb (.b n :: r) 0 = n := rfl
@[simp] theorem fs_0 {n : ByteArray} {r : List D} : fs (.str n :: r) 0 = n := rfl
@[simp] theorem fl_0 {n : List (List D)} {r : List D} : fl (.l n :: r) 0 = n := rfl
@[simp] theorem fi_s {d : D} {r : List D} {j : Nat} : fi (d :: r) (j + 1) = fi r j := rfl
@[simp] theorem fb_s {d : D} {r : List D} {j : Nat} : fb (d :: r) (j + 1) = fb r j := rfl
@[simp] theorem fs_s {d : D} {r : List D} {j : Nat} : fs (d :: r) (j + 1) = fs r j := rfl
@[simp] theorem fl_s {d : D} {r : List D} {j : Nat} : fl (d :: r) (j + 1) = fl r j := rfl
/-- The first index, from i on, at which f is true; -1 if there is none. -/
def idxF {α : Type} (f : α → Bool) : Int → List α → Int
  | _, [] => -1
  | i, a :: l => bif f a then i else idxF f (i + 1) l
theorem idx_drop {α : Type} {f : α → Bool} {l : List α} {k : Nat} {i : Int} (h : k < l.length) : idxF f i (l.drop k) = bif f l[k] then i else idxF f (i + 1) (l.drop (k + 1)) := by rw [List.drop_eq_getElem_cons h]; rfl
theorem idx_nonneg {α : Type} {f : α → Bool} : ∀ {l : List α} {i : Int}, 0 ≤ i → leB 0 (idxF f i l) = l.any f
  | [], i, h => by simp [idxF]
  | a :: l, i, h => by
    rw [idxF, List.any_cons]
    cases hf : f a with
    | true => simpa using h
    | false => simp only [cond_false, Bool.false_or]; exact idx_nonneg (by omega)
end Go.AM
