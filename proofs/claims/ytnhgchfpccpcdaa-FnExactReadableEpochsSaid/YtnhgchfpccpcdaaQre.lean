/-
  Own text: a part of the abstract machine for this seat (Qre). No statement is proved here.
-/
import Derived.Test.YtnhgchfpccpcdaaHal
import Derived.Test.YtnhgchfpccpcdaaQam
set_option linter.unusedVariables false
set_option linter.unusedSimpArgs false
namespace Go.AM
open Go.Proofs
attribute [local simp] ltB_self eqB_refl ix_nat
theorem zip_all : ∀ (a b : List Int), a.length ≤ b.length → ((a.zip b).all fun x => eqB x.1 x.2) = a.isPrefixOf b
  | [], b, _ => by simp [List.isPrefixOf]
  | x :: a, [], h => by simp at h
  | x :: a, y :: b, h => by
    rw [List.zip_cons_cons, List.all_cons, zip_all a b (by simpa using h), List.isPrefixOf]
    congr 1
    by_cases e : x = y
    · subst e; simp [eqB]
    · rw [show eqB x y = false from by simp [eqB, e]]; simp [e]
theorem geq_eq {a b : List Int} (h : a.length ≤ 1048576) (hl : a.length = b.length) : gslices_Equal_int_int a b = some (a.isPrefixOf b) := by
  unfold gslices_Equal_int_int
  rw [show eqB ((a.length : Nat) : Int) ((b.length : Nat) : Int) = true from by simp [eqB, hl], ← zip_all a b (by omega)]
  simp only [Bool.not_true, cond_false]
  have hz : (a.zip b).length = a.length := by simp; omega
  refine all_rule (a.zip b) _ (by omega) (fun k x hx hk => ?_) (by rw [hz]; simp [gslices_Equal_int_int_L1])
  have h1 : k < a.length := by omega
  have h2 : k < b.length := by omega
  have : x = (a[k], b[k]) := by rw [List.getElem?_eq_getElem hk] at hx; simpa using hx.symm
  subst this
  simp only [gslices_Equal_int_int_L1, ltB_lt h1, ix_nat, List.getElem?_eq_getElem h1, List.getElem?_eq_getElem h2, WR_succ (show k < 9223372036854775807 by omega), Option.bind_some, cond_true]
  cases eqB a[k] b[k] <;> rfl
theorem ipref_eq {p q : TKeyPath} (h : p.Steps.length ≤ 1048576) : iIsPrefixPath p q = some (p.Steps.isPrefixOf q.Steps) := by
  unfold iIsPrefixPath iEqualInts
  by_cases hl : p.Steps.length ≤ q.Steps.length
  · rw [show leB ((p.Steps.length : Nat) : Int) ((q.Steps.length : Nat) : Int) = true from by simp [leB, hl]]
    rw [show slOk q.Steps 0 ((p.Steps.length : Nat) : Int) = true from by simp [slOk, hl]]
    simp only [cond_true, Int.toNat_natCast]
    rw [geq_eq h (by simp; omega)]
    simp only [Option.bind_some]
    congr 1
    rw [Bool.eq_iff_iff]
    simp only [List.isPrefixOf_iff_prefix]
    constructor
    · intro hp; exact hp.trans (List.take_prefix _ _)
    · intro hp; rw [List.prefix_iff_eq_take] at hp; rw [← hp]; exact List.prefix_rfl
  · rw [show leB ((p.Steps.length : Nat) : Int) ((q.Steps.length : Nat) : Int) = false from by simp [leB]; omega]
    simp only [cond_false, Option.bind_some]
    congr 1
    symm
    rw [Bool.eq_false_iff]
    intro hp
    have := List.IsPrefix.length_le (List.isPrefixOf_iff_prefix.1 hp)
    omega
theorem spref_eq {p q : TKeyPath} (h : p.Steps.length ≤ 1048576) : sIsPrefixPath p q = some (p.Steps.isPrefixOf q.Steps) := by
  unfold sIsPrefixPath
  by_cases hl : p.Steps.length ≤ q.Steps.length
  · rw [show ltB ((q.Steps.length : Nat) : Int) ((p.Steps.length : Nat) : Int) = false from by simp [ltB]; omega, ← zip_all _ _ hl]
    simp only [cond_false]
    have hz : (p.Steps.zip q.Steps).length = p.Steps.length := by simp; omega
    refine all_rule (p.Steps.zip q.Steps) _ (by omega) (fun k x hx hk => ?_) (by rw [hz]; simp [sIsPrefixPath_L1])
    have h1 : k < p.Steps.length := by omega
    have h2 : k < q.Steps.length := by omega
    have : x = (p.Steps[k], q.Steps[k]) := by rw [List.getElem?_eq_getElem hk] at hx; simpa using hx.symm
    subst this
    simp only [sIsPrefixPath_L1, ltB_lt h1, ix_nat, List.getElem?_eq_getElem h1, List.getElem?_eq_getElem h2, WR_succ (show k < 9223372036854775807 by omega), Option.bind_some, cond_true]
    cases eqB p.Steps[k] q.Steps[k] <;> rfl
  · rw [show ltB ((q.Steps.length : Nat) : Int) ((p.Steps.length : Nat) : Int) = true from by simp [ltB]; omega]
    simp only [cond_true]
    congr 1
    symm
    rw [Bool.eq_false_iff]
    intro hp
    have := List.IsPrefix.length_le (List.isPrefixOf_iff_prefix.1 hp)
    omega
def expP (g : Int) (q : TKeyPath) (x : TLeakedKey) : Bool := eqB x.Generation g && x.Path.Steps.isPrefixOf q.Steps
theorem iExposes_eq {xs : List TLeakedKey} (h : okL okTLeakedKey xs) (g : Int) (q : TKeyPath) : iExposes xs g q = some (xs.any (expP g q)) :=
  any_rule xs (expP g q) (by have := h.1; omega) (fun k x hx hk => by
    have hq := (h.2 x (List.mem_of_getElem? hx)).1
    have := h.1
    simp only [iExposes_L1, ltB_lt hk, ix_nat, hx, WR_succ (show k < 9223372036854775807 by omega), expP, ipref_eq hq, Option.bind_some, cond_true]
    cases eqB x.Generation g <;> cases x.Path.Steps.isPrefixOf q.Steps <;> rfl) (by simp [iExposes_L1])
theorem sExposes_eq {xs : List TLeakedKey} (h : okL okTLeakedKey xs) (g : Int) (q : TKeyPath) : sExposes xs g q = some (xs.any (expP g q)) :=
  any_rule xs (expP g q) (by have := h.1; omega) (fun k x hx hk => by
    have hq := (h.2 x (List.mem_of_getElem? hx)).1
    have := h.1
    simp only [sExposes_L1, ltB_lt hk, ix_nat, hx, WR_succ (show k < 9223372036854775807 by omega), expP, spref_eq hq, Option.bind_some, cond_true]
    cases eqB x.Generation g <;> cases x.Path.Steps.isPrefixOf q.Steps <;> rfl) (by simp [sExposes_L1])

def epB (xs : List TLeakedKey) (g : Int) (s : List Int) (k : Nat) : Option (Step (List Int) (List Int)) :=
  bif xs.any (expP g ⟨[1, 3, (k : Int)]⟩) then (bif apOk 8 (s ++ [(k : Int)]).length then some (.next (s ++ [(k : Int)])) else none) else some (.next s)
theorem min50 (v last : Int) : (bif leB v last then some (leB v 50) else some false) = some (leB v (if 50 < last then 50 else last)) := by
  by_cases h : 50 < last
  · rw [if_pos h]
    by_cases h2 : v ≤ last
    · simp [leB, h2]
    · have h3 : ¬ v ≤ 50 := by omega
      simp [leB, h2, h3]
  · rw [if_neg h]
    by_cases h2 : v ≤ last
    · have h3 : v ≤ 50 := by omega
      simp [leB, h2, h3]
    · simp [leB, h2]
theorem step_eq {xs : List TLeakedKey} (h : okL okTLeakedKey xs) (g last : Int) : sReadableEpochs_L1 xs g last = iReadableEpochs_L1 xs g last := by
  funext p
  obtain ⟨v1, v2⟩ := p
  have hm : iMin last 50 = some (if 50 < last then 50 else last) := by unfold iMin ltB; by_cases h : 50 < last <;> simp [h]
  simp only [iReadableEpochs_L1, sReadableEpochs_L1, hm, min50, iRadioKeyPath, sRadioKeyPath, iExposes_eq h, sExposes_eq h, Option.bind_some]
theorem run_eq {xs : List TLeakedKey} (h : okL okTLeakedKey xs) (g last : Int) : ∃ r, iReadableEpochs xs g last = some r ∧ sReadableEpochs xs g last = some r ∧ r.length ≤ 50 := by
  have hm : iMin last 50 = some (if 50 < last then 50 else last) := by unfold iMin ltB; by_cases h : 50 < last <;> simp [h]
  have key : ∀ hi : Nat, 1 ≤ hi → hi ≤ 51 → (∀ k : Nat, 1 ≤ k → k < hi → ((k : Int) ≤ if 50 < last then 50 else last)) → ¬ ((hi : Int) ≤ if 50 < last then 50 else last) → ∃ r, iter (iReadableEpochs_L1 xs g last) FU (1, ([] : List Int)) = some r ∧ r.length ≤ 50 := by
    intro hi h1 h51 hlow hhi
    have := iter_cnt (step := iReadableEpochs_L1 xs g last) 1 hi h1 (by omega) (fun k (s : List Int) => ((k : Int), s)) (epB xs g) some
      (fun k s hk1 hk2 => by
        have hle : leB (k : Int) (if 50 < last then 50 else last) = true := by simp only [leB, decide_eq_true_eq]; exact hlow k hk1 hk2
        simp only [iReadableEpochs_L1, hm, hle, iRadioKeyPath, iExposes_eq h, WR_succ (show k < 9223372036854775807 by omega), epB, Option.bind_some, cond_true]
        cases xs.any (expP g ⟨[1, 3, (k : Int)]⟩) <;> cases apOk 8 (s ++ [(k : Int)]).length <;> rfl)
      (fun s => by
        have hle : leB (hi : Int) (if 50 < last then 50 else last) = false := by simp only [leB, decide_eq_false_iff_not]; exact hhi
        simp only [iReadableEpochs_L1, hm, hle, Option.bind_some, cond_false, dn_some]) []
    obtain ⟨r, h3, h4⟩ := forL_grow (m := 1000) (body := epB xs g) (fun s x hs => by
      unfold epB
      rw [apOk_small (by omega) (by simp; omega)]
      cases xs.any (expP g ⟨[1, 3, (x : Int)]⟩)
      · exact ⟨s, rfl, by omega⟩
      · exact ⟨s ++ [(x : Int)], rfl, by simp⟩) (List.range' 1 (hi - 1)) [] (by simp; omega)
    refine ⟨r, ?_, by simp at h4; omega⟩
    rw [← h3]; exact this
  obtain ⟨r, h1, h2⟩ : ∃ r, iter (iReadableEpochs_L1 xs g last) FU (1, ([] : List Int)) = some r ∧ r.length ≤ 50 := by
    by_cases h1 : 50 < last
    · refine key 51 (by omega) (by omega) (fun k _ hk => ?_) ?_
      · rw [if_pos h1]; omega
      · rw [if_pos h1]; omega
    · by_cases h2 : last < 1
      · refine key 1 (by omega) (by omega) (fun k _ hk => by omega) ?_
        rw [if_neg h1]; omega
      · refine key (last.toNat + 1) (by omega) (by omega) (fun k _ hk => ?_) ?_
        · rw [if_neg h1]; omega
        · rw [if_neg h1]; omega
  refine ⟨r, ?_, ?_, h2⟩
  · rw [iReadableEpochs, h1]; rfl
  · rw [sReadableEpochs, step_eq h, h1]; rfl
theorem lFnExactReadableEpochs_ok (xs : List TLeakedKey) (hp : preL preTLeakedKey xs) (g : Int) (hg : (Lit.int .i64 g).wf = true) (last : Int) (hl : (Lit.int .i64 last).wf = true) : lFnExactReadableEpochs xs g last = some true := by
  unfold lFnExactReadableEpochs
  obtain ⟨r1, a1, b1, c1⟩ := psz_LeakedKeyS xs 1048576 hp (by omega) (by omega)
  rcases c1 with ⟨c1, rfl⟩ | ⟨c1, d1, e1⟩
  · simp [a1, c1]
  obtain ⟨r, h1, h2, h3⟩ := run_eq e1 g last
  have hr : okL (fun _ => True) r := ⟨by omega, fun _ _ => trivial⟩
  obtain ⟨k', z1, z2, z3⟩ := pz_LeakedKeyS xs 1 e1 (by omega) (by omega)
  have hz : ltB k' 0 = false := lt0_f (by omega)
  have hm2 : ltB (1 + (1 : Int) * (r.length : Int)) 0 = false := lt0_f (by omega)
  have hle : lenEq (marks gIntS 1 r.length 1) r = true := by simp [lenEq, marks_len]
  simp only [a1, c1, pto_LeakedKeyS xs e1, h1, h2, peq_IntS r hr, peq_LeakedKeyS xs e1, z1, hz, pmark_IntS r (by omega), pheld_IntS r.length (by omega), hle, hm2, eqB_refl, Option.bind_some, cond_true, cond_false, Bool.not_true]
theorem fnExactReadableEpochs_fn (x0 : D) (h0 : WT (.l [.i .i64, .l [.i .i64]]) x0) (x1 : D) (h1 : WT (.i .i64) x1) (x2 : D) (h2 : WT (.i .i64) x2) : Fn Try.prog 7 [.c x0, .c x1, .c x2] [rB true] := by
  obtain ⟨y0, rfl, l0, w0⟩ := h0.gl
  obtain ⟨a0, rfl, p0⟩ := WTL_map (f := eTLeakedKey) (p := preTLeakedKey) (fun _ h => wtTLeakedKey h) w0
  obtain ⟨a1, rfl, w1⟩ := h1.gi
  obtain ⟨a2, rfl, w2⟩ := h2.gi
  exact lFnExactReadableEpochs_c (lFnExactReadableEpochs_ok a0 ⟨by simpa using l0, p0⟩ a1 w1 a2 w2)
end Go.AM
