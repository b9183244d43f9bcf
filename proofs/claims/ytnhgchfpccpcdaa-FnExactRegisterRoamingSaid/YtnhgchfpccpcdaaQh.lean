/-
  Own text: a part of the abstract machine for this seat (Qh). No statement is proved here.
-/
import Derived.Test.YtnhgchfpccpcdaaHcs
import Derived.Test.YtnhgchfpccpcdaaHcm
import Derived.Test.YtnhgchfpccpcdaaPw
set_option linter.unusedVariables false
set_option linter.unusedSimpArgs false
namespace Go.AM
open Go.Proofs
attribute [local simp] ltB_self eqB_refl ix_nat
/-! sums that are hashed -/
theorem iInRange_eq (n a b : Int) : iInRange n a b = some (inR n a b) := by unfold iInRange inR; cases leB a n <;> rfl
theorem sl1In_eq (n a b : Int) : sl1In n a b = some (inR n a b) := by unfold sl1In inR; cases leB a n <;> rfl
theorem tmod_emod (x m : Int) : (Int.tmod x m) % m = x % m := by
  have h := Int.mul_tdiv_add_tmod x m
  have h2 : x % m = (m * x.tdiv m + x.tmod m) % m := by rw [h]
  rw [h2, Int.mul_add_emod_self_left]
theorem tmod_abs {m : Int} (x : Int) (hm : 0 < m) : -m < Int.tmod x m ∧ Int.tmod x m < m := ⟨Int.lt_tmod_of_pos x hm, Int.tmod_lt_of_pos x hm⟩
theorem mod_neg {r m : Int} (h1 : -m < r) (h2 : r < 0) : r % m = r + m := by
  rw [← Int.add_emod_right r m, Int.emod_eq_of_lt (by omega) (by omega)]
theorem iMod_eq (x : Int) {m : Int} (h1 : 1 ≤ m) (h2 : m ≤ 1000000000000) : iMod x m = some (x % m) := by
  obtain ⟨a, b⟩ := tmod_abs x (show 0 < m by omega)
  have hr : inR m 1 1000000000000 = true := inR_iff.2 ⟨h1, h2⟩
  have hz : (!eqB m 0) = true := by simp [eqB]; omega
  simp only [iMod, iInRange_eq, hr, hz, Option.bind_some, Bool.not_true, cond_false, cond_true]
  rw [← tmod_emod x m]
  by_cases h : Int.tmod x m < 0
  · rw [show ltB (Int.tmod x m) 0 = true from lt0_t h, mod_neg a h]
    simp only [cond_true, Option.bind_some]
    rw [WR_in (by omega)]
  · rw [show ltB (Int.tmod x m) 0 = false from lt0_f (by omega), Int.emod_eq_of_lt (by omega) b]
    simp only [cond_false, Option.bind_some]
theorem sMod_eq (x : Int) {m : Int} (h1 : 1 ≤ m) (h2 : m ≤ 1000000000000) : sMod x m = some (x % m) := by
  obtain ⟨a, b⟩ := tmod_abs x (show 0 < m by omega)
  have hr : inR m 1 1000000000000 = true := inR_iff.2 ⟨h1, h2⟩
  have hz : (!eqB m 0) = true := by simp [eqB]; omega
  simp only [sMod, sl1In_eq, hr, hz, Option.bind_some, Bool.not_true, cond_false, cond_true]
  rw [WR_in (by omega), Int.tmod_eq_emod_of_nonneg (by omega), Int.add_emod_right, tmod_emod]
abbrev hM : Int := 2147483647
def hstep (v x : Int) : Int := (v * 1000003 + x % hM + 13) % hM
theorem hstep_in (v x : Int) : 0 ≤ hstep v x ∧ hstep v x < hM := ⟨Int.emod_nonneg _ (by decide), Int.emod_lt_of_pos _ (by decide)⟩
theorem raw_eq {v x : Int} (h0 : 0 ≤ v) (h1 : v < hM) : Int.tmod (WR (WR (WR (v * 1000003) + x % hM) + 13)) hM = hstep v x := by
  have a := Int.emod_nonneg x (show hM ≠ 0 by decide)
  have b := Int.emod_lt_of_pos x (show 0 < hM by decide)
  unfold hM at *
  rw [WR_in (n := v * 1000003) (by omega), WR_in (n := v * 1000003 + x % 2147483647) (by omega), WR_in (n := v * 1000003 + x % 2147483647 + 13) (by omega), Int.tmod_eq_emod_of_nonneg (by omega)]
  rfl
theorem ihashStep_eq {v x : Int} (h0 : 0 ≤ v) (h1 : v < hM) : ihashStep v x = some (hstep v x) := by
  rw [ihashStep, iMod_eq x (by omega) (by omega)]
  simp only [Option.bind_some]
  rw [raw_eq h0 h1]
def hfold (v : Int) (xs : List Int) : Int := xs.foldl hstep v
theorem hfold_in {v : Int} (h0 : 0 ≤ v) (h1 : v < hM) : ∀ (xs : List Int), 0 ≤ hfold v xs ∧ hfold v xs < hM
  | [] => ⟨h0, h1⟩
  | x :: xs => hfold_in (hstep_in v x).1 (hstep_in v x).2 xs
theorem fold_run : ∀ (xs : List Int) (v : Int), 0 ≤ v → v < hM → forL (fun (s x : Int) => some (Step.next (ρ := Int) (Int.tmod (WR (WR (WR (s * 1000003) + x % hM) + 13)) hM))) some xs v = some (hfold v xs)
  | [], v, _, _ => rfl
  | x :: xs, v, h0, h1 => by
    rw [forL, raw_eq h0 h1]
    exact fold_run xs _ (hstep_in v x).1 (hstep_in v x).2
theorem sHash_eq {xs : List Int} (hl : xs.length ≤ 1048576) : sHash xs = some (hfold 11 xs) := by
  have := iter_for (step := sHash_L1 xs) xs (fun k (s : Int) => (s, (k : Int))) (fun s x => some (Step.next (Int.tmod (WR (WR (WR (s * 1000003) + x % hM) + 13)) hM))) some (by omega)
    (fun k x s hx hk => by
      simp only [sHash_L1, ltB_lt hk, ix_nat, hx, sMod_eq x (m := 2147483647) (by omega) (by omega), WR_succ (show k < 9223372036854775807 by omega), Option.bind_some, cond_true]; rfl) (fun s => by simp [sHash_L1]) 11
  rw [sHash, show iter (sHash_L1 xs) FU (11, 0) = _ from this, fold_run xs 11 (by decide) (by decide)]
  rfl
theorem ifold_run : ∀ (xs : List Int) (v : Int), 0 ≤ v → v < hM → forL (fun (s x : Int) => Option.bind (ihashStep s x) fun r => some (Step.next (ρ := Int) r)) some xs v = some (hfold v xs)
  | [], v, _, _ => rfl
  | x :: xs, v, h0, h1 => by
    rw [forL, ihashStep_eq h0 h1]
    exact ifold_run xs _ (hstep_in v x).1 (hstep_in v x).2
def khash (k : Int) (xs : List Int) : Int := hstep (hfold (hstep 11 k) xs) k
theorem khash_in (k : Int) (xs : List Int) : 0 ≤ khash k xs ∧ khash k xs < hM := hstep_in _ _
theorem iKeyedHash_eq {xs : List Int} (hl : xs.length ≤ 1048576) (k : Int) : iKeyedHash k xs = some (khash k xs) := by
  have := iter_for (step := iKeyedHash_L1 xs) xs (fun k (s : Int) => (s, (k : Int))) (fun s x => Option.bind (ihashStep s x) fun r => some (Step.next r)) some (by omega)
    (fun k x s hx hk => by
      simp only [iKeyedHash_L1, ltB_lt hk, ix_nat, hx, WR_succ (show k < 9223372036854775807 by omega), Option.bind_some, cond_true]
      cases ihashStep s x <;> rfl) (fun s => by simp [iKeyedHash_L1]) (hstep 11 k)
  rw [iKeyedHash, ihashStep_eq (by decide) (by decide)]
  simp only [Option.bind_some]
  have h2 := hstep_in 11 k
  rw [show iter (iKeyedHash_L1 xs) FU (hstep 11 k, 0) = _ from this, ifold_run xs _ h2.1 h2.2]
  have h3 := hfold_in h2.1 h2.2 xs
  simp only [Option.bind_some]
  rw [ihashStep_eq h3.1 h3.2]
  rfl
theorem sKeyedHash_eq {xs : List Int} (hl : xs.length ≤ 100000) (k : Int) : sKeyedHash k xs = some (khash k xs) := by
  have a1 : apOk 8 ([k] ++ xs).length = true := apOk_small (by omega) (by simp; omega)
  have a2 : apOk 8 (([k] ++ xs) ++ [k]).length = true := apOk_small (by omega) (by simp; omega)
  rw [sKeyedHash, a1, a2]
  simp only [cond_true]
  rw [sHash_eq (by simp; omega)]
  simp [hfold, khash]
end Go.AM
