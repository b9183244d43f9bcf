/-
  Own text: a part of the abstract machine for this seat (Pk). No statement is proved here.
-/
import Derived.Test.YtenhpomjfgbpoaaGkl
import Derived.Test.YtenhpomjfgbpoaaPv
set_option linter.unusedVariables false
set_option linter.unusedSimpArgs false
namespace Go.AM
open Go.Proofs
attribute [local simp] ltB_self eqB_refl ix_nat
/-! the paths -/
theorem geq_eq {a b : List Int} (h : a.length ≤ 1048576) : gslices_Equal_int_int a b = some (decide (a = b)) := by
  unfold gslices_Equal_int_int
  by_cases hl : a.length = b.length
  · rw [show eqB ((a.length : Nat) : Int) ((b.length : Nat) : Int) = true from by simp [eqB, hl]]
    simp only [Bool.not_true, cond_false]
    have := iter_for (step := gslices_Equal_int_int_L1 a b) (a.zip b) (fun k (_ : Unit) => (k : Int)) (fun _ x => bif !eqB x.1 x.2 then some (.done false) else some (.next ())) (fun _ => some true) (by simp; omega)
      (fun k x s hx hk => by
        have h1 : k < a.length := by simp at hk; omega
        have h2 : k < b.length := by omega
        have : x = (a[k], b[k]) := by
          rw [List.getElem?_eq_getElem hk] at hx; simpa using hx.symm
        subst this
        simp [gslices_Equal_int_int_L1, ltB_lt h1, List.getElem?_eq_getElem h1, List.getElem?_eq_getElem h2, WR_succ (show k < 9223372036854775807 by omega)])
      (fun s => by
        have : (a.zip b).length = a.length := by simp; omega
        rw [this]; simp [gslices_Equal_int_int_L1]) ()
    refine Eq.trans (show iter (gslices_Equal_int_int_L1 a b) FU 0 = _ from this) ?_
    clear this
    have key : ∀ (a b : List Int), a.length = b.length → forL (fun (_ : Unit) (x : Int × Int) => bif !eqB x.1 x.2 then some (Step.done false) else some (.next ())) (fun _ => some true) (a.zip b) () = some (decide (a = b)) := by
      intro a
      induction a with
      | nil => intro b hb; cases b with
        | nil => rfl
        | cons _ _ => simp at hb
      | cons x a ih => intro b hb; cases b with
        | nil => simp at hb
        | cons y b =>
          rw [List.zip_cons_cons, forL]
          by_cases hxy : x = y
          · subst hxy
            simp only [eqB_refl, Bool.not_true, cond_false]
            rw [ih b (by simpa using hb)]
            simp
          · rw [show eqB x y = false from by simp [eqB, hxy]]
            simp [hxy]
    exact key a b hl
  · rw [show eqB ((a.length : Nat) : Int) ((b.length : Nat) : Int) = false from by simp [eqB]; omega]
    simp only [Bool.not_false, cond_true]
    have : a ≠ b := fun e => hl (by rw [e])
    simp [this]
theorem pref_eq {p q : TKeyPath} (h : p.Steps.length ≤ 1048576) : iIsPrefixPath p q = some (p.Steps.isPrefixOf q.Steps) := by
  unfold iIsPrefixPath iEqualInts
  by_cases hl : p.Steps.length ≤ q.Steps.length
  · rw [show leB ((p.Steps.length : Nat) : Int) ((q.Steps.length : Nat) : Int) = true from by simp [leB, hl]]
    rw [show slOk q.Steps 0 ((p.Steps.length : Nat) : Int) = true from by simp [slOk, hl]]
    simp only [cond_true, geq_eq h, Option.bind_some, Int.toNat_natCast]
    congr 1
    rw [Bool.eq_iff_iff]
    simp [List.prefix_iff_eq_take]
  · rw [show leB ((p.Steps.length : Nat) : Int) ((q.Steps.length : Nat) : Int) = false from by simp [leB]; omega]
    simp only [cond_false, Option.bind_some]
    congr 1
    symm
    rw [Bool.eq_false_iff]
    intro hp
    have := List.IsPrefix.length_le (List.isPrefixOf_iff_prefix.1 hp)
    omega
/-- One leaked key. -/
theorem exp_one (g : Int) (p : TKeyPath) (hp : p.Steps.length ≤ 1048576) (g' : Int) (q : TKeyPath) : iExposes [⟨g, p⟩] g' q = some (eqB g g' && p.Steps.isPrefixOf q.Steps) := by
  have := iter_for (step := iExposes_L1 [⟨g, p⟩] g' q) [(⟨g, p⟩ : TLeakedKey)] (fun k (_ : Unit) => (k : Int)) (fun _ x => bif eqB x.Generation g' && x.Path.Steps.isPrefixOf q.Steps then some (.done true) else some (.next ())) (fun _ => some false) (by simp)
    (fun k x s hx hk => by
      have hk0 : k = 0 := by simpa using hk
      subst hk0
      simp at hx; subst hx
      simp only [iExposes_L1, ltB_lt hk, ix_nat, List.getElem?_cons_zero, Option.bind_some, cond_true, pref_eq hp, WR_succ (show 0 < 9223372036854775807 by omega)]
      cases eqB g g' <;> cases p.Steps.isPrefixOf q.Steps <;> rfl)
    (fun s => by simp [iExposes_L1]) ()
  refine Eq.trans (show iExposes [⟨g, p⟩] g' q = _ from this) ?_
  simp only [forL]
  cases eqB g g' && p.Steps.isPrefixOf q.Steps <;> rfl
theorem forge_one (g : Int) (p : TKeyPath) (hp : p.Steps.length ≤ 1048576) (g' : Int) : iCanForgeSignals [⟨g, p⟩] g' = some (eqB g g' && p.Steps.isPrefixOf [1, 2]) := by
  simp [iCanForgeSignals, iSignalingKeyPath, exp_one g p hp]
/-- The epochs that one leaked key lets read. -/
def eps (g : Int) (p : TKeyPath) (g' : Int) (m : Nat) : List Int := ((List.range' 1 m).filter fun e : Nat => eqB g g' && p.Steps.isPrefixOf [1, 3, (e : Int)]).map (fun e : Nat => (e : Int))
theorem read_one (g : Int) (p : TKeyPath) (hp : p.Steps.length ≤ 1048576) (g' last : Int) (m : Nat) (hm : (m : Int) = min last 50) : iReadableEpochs [⟨g, p⟩] g' last = some (eps g p g' m) := by
  have hm50 : m ≤ 50 := by omega
  have hmin : iMin last 50 = some (m : Int) := by
    unfold iMin
    by_cases h : 50 < last
    · rw [show ltB 50 last = true from by simp [ltB, h]]; simp; omega
    · rw [show ltB 50 last = false from by simp [ltB]; omega]; simp; omega
  have := iter_cnt (step := iReadableEpochs_L1 [⟨g, p⟩] g' last) 1 (m + 1) (by omega) (by omega) (fun j (s : List Int) => ((j : Int), s))
    (fappB 8 (fun e : Nat => eqB g g' && p.Steps.isPrefixOf [1, 3, (e : Int)]) (fun e => (e : Int))) some
    (fun j s h1 h2 => by
      have h4 : leB (j : Int) (m : Int) = true := by simp [leB]; omega
      simp only [iReadableEpochs_L1, hmin, h4, iRadioKeyPath, exp_one g p hp, fappB, Option.bind_some, cond_true, WR_succ (show j < 9223372036854775807 by omega)]
      cases eqB g g' && p.Steps.isPrefixOf [1, 3, (j : Int)] <;> cases apOk 8 (s ++ [(j : Int)]).length <;> rfl)
    (fun s => by
      have h4 : leB ((m + 1 : Nat) : Int) (m : Int) = false := by simp [leB]; omega
      simp only [iReadableEpochs_L1, hmin, h4, Option.bind_some, cond_false]; rfl) []
  rw [iReadableEpochs, show iter (iReadableEpochs_L1 [⟨g, p⟩] g' last) FU (1, []) = _ from this, fapp_eq (by decide) _ _ _ _ (by simp; omega)]
  simp [eps]
theorem same_refl {xs : List Int} (h : xs.length ≤ 1048576) : lsameInts xs xs = some true := eq_list (ok := fun _ => True) (e := fun x y => some (eqB x y)) (f := lsameInts) (L := lsameInts_L1) (fun _ _ => by simp [eqB_refl]) (fun _ _ => rfl) (fun _ _ _ => rfl) xs ⟨h, fun _ _ => trivial⟩
theorem at_ok (xs : List Int) (h : xs.length ≤ 1048576) (hb : ∀ x ∈ xs, okU8 x) (i : Nat) (hi : i ≤ 1000) : ∃ n : Int, lat xs i = some n ∧ 0 ≤ n ∧ n ≤ 255 := by
  unfold lat
  by_cases hl : i < xs.length
  · obtain ⟨q1, q2⟩ := hb xs[i] (List.getElem_mem hl)
    refine ⟨xs[i], ?_, q1, q2⟩
    rw [ltB_lt hl]
    simp only [cond_true, ix_nat, List.getElem?_eq_getElem hl, Option.bind_some]
    rw [WR_in (by omega)]
  · rw [show ltB (i : Int) (xs.length : Int) = false from by simp [ltB]; omega]
    simp only [cond_false]
    rw [WR_in (n := (i : Int) * 31) (by omega), WR_in (n := (xs.length : Int) * 7) (by omega), WR_in (by omega)]
    exact ⟨_, rfl, by rw [Int.tmod_eq_emod_of_nonneg (by omega)]; omega, by rw [Int.tmod_eq_emod_of_nonneg (by omega)]; omega⟩
theorem lFnSessionKeyLeak_ok (xs : List Int) (hp : preL okU8 xs) : lFnSessionKeyLeak xs = some true := by
  have hb := hp.2
  unfold lFnSessionKeyLeak lbig
  by_cases hbig : 1048576 < xs.length
  · rw [show ltB 1048576 ((xs.length : Nat) : Int) = true from by simp [ltB]; omega]; rfl
  rw [show ltB 1048576 ((xs.length : Nat) : Int) = false from by simp [ltB]; omega]
  obtain ⟨g, e0, g0, g1⟩ := at_ok xs (by omega) hb 0 (by omega)
  obtain ⟨a, e1, a0, a1⟩ := at_ok xs (by omega) hb 1 (by omega)
  have hla : 0 ≤ a.tmod 60 ∧ a.tmod 60 ≤ 59 := by rw [Int.tmod_eq_emod_of_nonneg a0]; omega
  have e0' : lat xs 0 = some g := e0
  have e1' : lat xs 1 = some a := e1
  simp only [Option.bind_some, cond_false, e0', e1']
  obtain ⟨m, hm⟩ : ∃ m : Nat, (m : Int) = min (a.tmod 60) 50 := ⟨(min (a.tmod 60) 50).toNat, by omega⟩
  have hm50 : m ≤ 50 := by omega
  -- what is wanted
  have hw : iter (lFnSessionKeyLeak_L1 a) FU (1, ([] : List Int)) = some ((List.range' 1 m).map (fun e : Nat => (e : Int))) := by
    have := iter_cnt (step := lFnSessionKeyLeak_L1 a) 1 (m + 1) (by omega) (by omega) (fun j (s : List Int) => ((j : Int), s)) (fappB 8 (fun _ : Nat => true) (fun e => (e : Int))) some
      (fun j s h1 h2 => by
        have h4 : leB (j : Int) (a.tmod 60) = true := by simp [leB]; omega
        have h5 : leB (j : Int) 50 = true := by simp [leB]; omega
        simp only [lFnSessionKeyLeak_L1, h4, h5, fappB, Option.bind_some, cond_true, WR_succ (show j < 9223372036854775807 by omega)]
        cases apOk 8 (s ++ [(j : Int)]).length <;> rfl)
      (fun s => by
        simp only [lFnSessionKeyLeak_L1]
        by_cases h : ((m + 1 : Nat) : Int) ≤ a.tmod 60
        · rw [show leB ((m + 1 : Nat) : Int) (a.tmod 60) = true from by simp [leB]; omega, show leB ((m + 1 : Nat) : Int) 50 = false from by simp [leB]; omega]; rfl
        · rw [show leB ((m + 1 : Nat) : Int) (a.tmod 60) = false from by simp [leB]; omega]; rfl) []
    refine Eq.trans (show iter (lFnSessionKeyLeak_L1 a) FU (1, []) = _ from this) ?_
    rw [fapp_eq (by decide) _ _ _ _ (by simp; omega), List.filter_eq_self.2 (by simp)]
    simp
  have heps : eps g ⟨[1]⟩ g m = (List.range' 1 m).map (fun e : Nat => (e : Int)) := by
    unfold eps
    rw [List.filter_eq_self.2 (by simp [List.isPrefixOf])]
  have heps2 : eps g ⟨[1, 2]⟩ g m = [] := by simp [eps, List.isPrefixOf]
  have hg1 : eqB g (WR (g + 1)) = false := by rw [WR_in (by omega)]; simp [eqB]; omega
  simp only [hw, Option.bind_some, iSignalingKeyPath, read_one g ⟨[1]⟩ (by simp) g _ m hm, heps, same_refl (show ((List.range' 1 m).map (fun e : Nat => (e : Int))).length ≤ 1048576 by simp; omega), cond_true, forge_one g ⟨[1]⟩ (by simp), forge_one g ⟨[1, 2]⟩ (by simp), read_one g ⟨[1, 2]⟩ (by simp) g _ m hm, heps2, hg1, eqB_refl]
  simp [List.isPrefixOf]
theorem surv_one (g : Int) (p : TKeyPath) (g' : Int) : iSurvivesReauthentication [⟨g, p⟩] g' = some (!leB g' g) := by
  have := iter_for (step := iSurvivesReauthentication_L1 [⟨g, p⟩] g') [(⟨g, p⟩ : TLeakedKey)] (fun k (_ : Unit) => (k : Int)) (fun _ x => bif leB g' x.Generation then some (.done false) else some (.next ())) (fun _ => some true) (by simp)
    (fun k x s hx hk => by
      have hk0 : k = 0 := by simpa using hk
      subst hk0
      simp at hx; subst hx
      simp only [iSurvivesReauthentication_L1, ltB_lt hk, ix_nat, List.getElem?_cons_zero, Option.bind_some, cond_true, WR_succ (show 0 < 9223372036854775807 by omega)]
      cases leB g' g <;> rfl)
    (fun s => by simp [iSurvivesReauthentication_L1]) ()
  refine Eq.trans (show iSurvivesReauthentication [⟨g, p⟩] g' = _ from this) ?_
  simp only [forL]
  cases leB g' g <;> rfl
theorem lFnForwardSecrecy_ok (xs : List Int) (hp : preL okU8 xs) : lFnForwardSecrecy xs = some true := by
  have hb := hp.2
  unfold lFnForwardSecrecy lbig
  by_cases hbig : 1048576 < xs.length
  · rw [show ltB 1048576 ((xs.length : Nat) : Int) = true from by simp [ltB]; omega]; rfl
  rw [show ltB 1048576 ((xs.length : Nat) : Int) = false from by simp [ltB]; omega]
  obtain ⟨g, e0, g0, g1⟩ := at_ok xs (by omega) hb 0 (by omega)
  obtain ⟨a, e1, a0, a1⟩ := at_ok xs (by omega) hb 1 (by omega)
  have e0' : lat xs 0 = some g := e0
  have e1' : lat xs 1 = some a := e1
  obtain ⟨f, hf, hf8⟩ : ∃ f : Nat, a.tmod 9 = f ∧ f ≤ 8 := ⟨(a.tmod 9).toNat, by rw [Int.tmod_eq_emod_of_nonneg a0]; omega, by rw [Int.tmod_eq_emod_of_nonneg a0]; omega⟩
  have hw1 : WR (1 + (f : Int)) = ((f + 1 : Nat) : Int) := by rw [WR_in (by omega)]; omega
  have hw2 : WR (((f + 1 : Nat) : Int) + 1) = ((f + 2 : Nat) : Int) := by rw [WR_in (by omega)]; omega
  have hw3 : WR (g + 1) = g + 1 := WR_in (by omega)
  simp only [Option.bind_some, cond_false, e0', e1', hf, hw1, hw2, hw3, iRadioKeyPath]
  have h10 : ((10 : Nat) : Int) = min 10 50 := by omega
  have heps : eps g ⟨[1, 3, ((f + 1 : Nat) : Int)]⟩ g 10 = [((f + 1 : Nat) : Int)] := by
    have : f = 0 ∨ f = 1 ∨ f = 2 ∨ f = 3 ∨ f = 4 ∨ f = 5 ∨ f = 6 ∨ f = 7 ∨ f = 8 := by omega
    unfold eps
    rw [eqB_refl]
    rcases this with rfl | rfl | rfl | rfl | rfl | rfl | rfl | rfl | rfl <;> decide
  have hg1 : eqB g (g + 1) = false := by simp [eqB]; omega
  have heps2 : eps g ⟨[1, 3, ((f + 1 : Nat) : Int)]⟩ (g + 1) 10 = [] := by simp [eps, hg1]
  have hx : ([1, 3, ((f + 1 : Nat) : Int)] : List Int).isPrefixOf [1, 3, ((f + 2 : Nat) : Int)] = false := by simp [List.isPrefixOf]
  have hx2 : ([1, 3, ((f + 1 : Nat) : Int)] : List Int).isPrefixOf [1, 2] = false := by simp [List.isPrefixOf]
  have hx3 : ([1, 3, ((f + 1 : Nat) : Int)] : List Int).isPrefixOf [1, 3, ((f + 1 : Nat) : Int)] = true := by simp [List.isPrefixOf]
  have hs1 : leB (g + 1) g = false := by simp [leB]; omega
  have hs2 : leB g g = true := by simp [leB]
  simp only [Option.bind_some, read_one g ⟨[1, 3, ((f + 1 : Nat) : Int)]⟩ (by simp) g 10 10 h10, heps, same_refl (show ([((f + 1 : Nat) : Int)] : List Int).length ≤ 1048576 by simp), cond_true, read_one g ⟨[1, 3, ((f + 1 : Nat) : Int)]⟩ (by simp) (g + 1) 10 10 h10, heps2, forge_one g ⟨[1, 3, ((f + 1 : Nat) : Int)]⟩ (by simp), exp_one g ⟨[1, 3, ((f + 1 : Nat) : Int)]⟩ (by simp), hx, hx2, hx3, eqB_refl, surv_one, hs1, hs2]
  simp
theorem fnSessionKeyLeak_fn (x0 : D) (h0 : WT (.l [.i .u8]) x0) : Fn Try.prog 6 [.c x0] [rB true] := by
  obtain ⟨y0, rfl, l0, w0⟩ := h0.gl
  obtain ⟨a0, rfl, p0⟩ := WTL_map (f := eU8) (p := okU8) (fun x h => by obtain ⟨n, r, rfl, w, h⟩ := h.gi; obtain rfl := h.gn; exact ⟨n, rfl, wf_u8 w⟩) w0
  exact lFnSessionKeyLeak_c (lFnSessionKeyLeak_ok a0 ⟨by simpa using l0, p0⟩)
theorem fnForwardSecrecy_fn (x0 : D) (h0 : WT (.l [.i .u8]) x0) : Fn Try.prog 8 [.c x0] [rB true] := by
  obtain ⟨y0, rfl, l0, w0⟩ := h0.gl
  obtain ⟨a0, rfl, p0⟩ := WTL_map (f := eU8) (p := okU8) (fun x h => by obtain ⟨n, r, rfl, w, h⟩ := h.gi; obtain rfl := h.gn; exact ⟨n, rfl, wf_u8 w⟩) w0
  exact lFnForwardSecrecy_c (lFnForwardSecrecy_ok a0 ⟨by simpa using l0, p0⟩)
end Go.AM
