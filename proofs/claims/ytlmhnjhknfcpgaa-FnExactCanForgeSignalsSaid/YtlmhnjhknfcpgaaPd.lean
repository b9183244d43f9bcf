/-
  Own text: a part of the abstract machine for this seat (Pd). No statement is proved here.
-/
import Derived.Test.YtlmhnjhknfcpgaaGcl
import Derived.Test.YtlmhnjhknfcpgaaPcm
set_option linter.unusedVariables false
set_option linter.unusedSimpArgs false
namespace Go.AM
open Go.Proofs
attribute [local simp] ltB_self eqB_refl ix_nat
theorem zip_all : ∀ (a b : List Int), a.length ≤ b.length → ((a.zip b).all fun x => eqB x.1 x.2) = a.isPrefixOf b
  | [], b, _ => by simp [List.isPrefixOf]
  | x :: a, [], h => by simp at h
  | x :: a, y :: b, h => by
    rw [List.zip_cons_cons, List.all_cons, zip_all a b (by simpa using h), List.isPrefixOf]
    congr 1
    by_cases e : x = y
    · subst e; simp [eqB]
    · rw [show eqB x y = false from by simp [eqB, e]]; simp [e]
theorem geq_eq {a b : List Int} (h : a.length ≤ 1048576) (hl : a.length = b.length) : gslices_Equal_int_int a b = some (a.isPrefixOf b) := by
  unfold gslices_Equal_int_int
  rw [show eqB ((a.length : Nat) : Int) ((b.length : Nat) : Int) = true from by simp [eqB, hl], ← zip_all a b (by omega)]
  simp only [Bool.not_true, cond_false]
  have hz : (a.zip b).length = a.length := by simp; omega
  refine all_rule (a.zip b) _ (by omega) (fun k x hx hk => ?_) (by rw [hz]; simp [gslices_Equal_int_int_L1])
  have h1 : k < a.length := by omega
  have h2 : k < b.length := by omega
  have : x = (a[k], b[k]) := by rw [List.getElem?_eq_getElem hk] at hx; simpa using hx.symm
  subst this
  simp only [gslices_Equal_int_int_L1, ltB_lt h1, ix_nat, List.getElem?_eq_getElem h1, List.getElem?_eq_getElem h2, WR_succ (show k < 9223372036854775807 by omega), Option.bind_some, cond_true]
  cases eqB a[k] b[k] <;> rfl
theorem ipref_eq {p q : TKeyPath} (h : p.Steps.length ≤ 1048576) : iIsPrefixPath p q = some (p.Steps.isPrefixOf q.Steps) := by
  unfold iIsPrefixPath iEqualInts
  by_cases hl : p.Steps.length ≤ q.Steps.length
  · rw [show leB ((p.Steps.length : Nat) : Int) ((q.Steps.length : Nat) : Int) = true from by simp [leB, hl]]
    rw [show slOk q.Steps 0 ((p.Steps.length : Nat) : Int) = true from by simp [slOk, hl]]
    simp only [cond_true, Int.toNat_natCast]
    rw [geq_eq h (by simp; omega)]
    simp only [Option.bind_some]
    congr 1
    rw [Bool.eq_iff_iff]
    simp only [List.isPrefixOf_iff_prefix]
    constructor
    · intro hp; exact hp.trans (List.take_prefix _ _)
    · intro hp; rw [List.prefix_iff_eq_take] at hp; rw [← hp]; exact List.prefix_rfl
  · rw [show leB ((p.Steps.length : Nat) : Int) ((q.Steps.length : Nat) : Int) = false from by simp [leB]; omega]
    simp only [cond_false, Option.bind_some]
    congr 1
    symm
    rw [Bool.eq_false_iff]
    intro hp
    have := List.IsPrefix.length_le (List.isPrefixOf_iff_prefix.1 hp)
    omega
theorem spref_eq {p q : TKeyPath} (h : p.Steps.length ≤ 1048576) : sIsPrefixPath p q = some (p.Steps.isPrefixOf q.Steps) := by
  unfold sIsPrefixPath
  by_cases hl : p.Steps.length ≤ q.Steps.length
  · rw [show ltB ((q.Steps.length : Nat) : Int) ((p.Steps.length : Nat) : Int) = false from by simp [ltB]; omega, ← zip_all _ _ hl]
    simp only [cond_false]
    have hz : (p.Steps.zip q.Steps).length = p.Steps.length := by simp; omega
    refine all_rule (p.Steps.zip q.Steps) _ (by omega) (fun k x hx hk => ?_) (by rw [hz]; simp [sIsPrefixPath_L1])
    have h1 : k < p.Steps.length := by omega
    have h2 : k < q.Steps.length := by omega
    have : x = (p.Steps[k], q.Steps[k]) := by rw [List.getElem?_eq_getElem hk] at hx; simpa using hx.symm
    subst this
    simp only [sIsPrefixPath_L1, ltB_lt h1, ix_nat, List.getElem?_eq_getElem h1, List.getElem?_eq_getElem h2, WR_succ (show k < 9223372036854775807 by omega), Option.bind_some, cond_true]
    cases eqB p.Steps[k] q.Steps[k] <;> rfl
  · rw [show ltB ((q.Steps.length : Nat) : Int) ((p.Steps.length : Nat) : Int) = true from by simp [ltB]; omega]
    simp only [cond_true]
    congr 1
    symm
    rw [Bool.eq_false_iff]
    intro hp
    have := List.IsPrefix.length_le (List.isPrefixOf_iff_prefix.1 hp)
    omega
def expP (g : Int) (q : TKeyPath) (x : TLeakedKey) : Bool := eqB x.Generation g && x.Path.Steps.isPrefixOf q.Steps
theorem iExposes_eq {xs : List TLeakedKey} (h : okL okTLeakedKey xs) (g : Int) (q : TKeyPath) : iExposes xs g q = some (xs.any (expP g q)) :=
  any_rule xs (expP g q) (by have := h.1; omega) (fun k x hx hk => by
    have hq := (h.2 x (List.mem_of_getElem? hx)).1
    have := h.1
    simp only [iExposes_L1, ltB_lt hk, ix_nat, hx, WR_succ (show k < 9223372036854775807 by omega), expP, ipref_eq hq, Option.bind_some, cond_true]
    cases eqB x.Generation g <;> cases x.Path.Steps.isPrefixOf q.Steps <;> rfl) (by simp [iExposes_L1])
theorem sExposes_eq {xs : List TLeakedKey} (h : okL okTLeakedKey xs) (g : Int) (q : TKeyPath) : sExposes xs g q = some (xs.any (expP g q)) :=
  any_rule xs (expP g q) (by have := h.1; omega) (fun k x hx hk => by
    have hq := (h.2 x (List.mem_of_getElem? hx)).1
    have := h.1
    simp only [sExposes_L1, ltB_lt hk, ix_nat, hx, WR_succ (show k < 9223372036854775807 by omega), expP, spref_eq hq, Option.bind_some, cond_true]
    cases eqB x.Generation g <;> cases x.Path.Steps.isPrefixOf q.Steps <;> rfl) (by simp [sExposes_L1])
theorem lFnExactCanForgeSignals_ok (xs : List TLeakedKey) (hp : preL preTLeakedKey xs) (n : Int) (hn : (Lit.int .i64 n).wf = true) : lFnExactCanForgeSignals xs n = some true := by
  unfold lFnExactCanForgeSignals
  obtain ⟨r1, a1, b1, c1⟩ := psz_LeakedKeyS xs 1048576 hp (by omega) (by omega)
  rcases c1 with ⟨c1, rfl⟩ | ⟨c1, d1, e1⟩
  · simp [a1, c1]
  have hi : iCanForgeSignals xs n = some (xs.any (expP n ⟨[1, 2]⟩)) := by simp [iCanForgeSignals, iSignalingKeyPath, iExposes_eq e1]
  have hs : sCanForgeSignals xs n = some (xs.any (expP n ⟨[1, 2]⟩)) := by simp [sCanForgeSignals, sSignalingKeyPath, sExposes_eq e1]
  have hb : ∀ b : Bool, booB b b = true := fun b => by simp
  simp only [a1, c1, pto_LeakedKeyS xs e1, hi, hs, hb, peq_LeakedKeyS xs e1, Option.bind_some, cond_false, Bool.not_true]
theorem fnExactCanForgeSignals_fn (x0 : D) (h0 : WT (.l [.i .i64, .l [.i .i64]]) x0) (x1 : D) (h1 : WT (.i .i64) x1) : Fn Try.prog 6 [.c x0, .c x1] [rB true] := by
  obtain ⟨y0, rfl, l0, w0⟩ := h0.gl
  obtain ⟨a0, rfl, p0⟩ := WTL_map (f := eTLeakedKey) (p := preTLeakedKey) (fun _ h => wtTLeakedKey h) w0
  obtain ⟨a1, rfl, w1⟩ := h1.gi
  exact lFnExactCanForgeSignals_c (lFnExactCanForgeSignals_ok a0 ⟨by simpa using l0, p0⟩ a1 w1)
end Go.AM
