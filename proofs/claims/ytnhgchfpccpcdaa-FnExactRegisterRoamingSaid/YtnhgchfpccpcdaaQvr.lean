/-
  Own text: a part of the abstract machine for this seat (Qvr). No statement is proved here.
-/
import Derived.Test.YtnhgchfpccpcdaaHcl
import Derived.Test.YtnhgchfpccpcdaaQcm
import Derived.Test.YtnhgchfpccpcdaaQh
set_option linter.unusedVariables false
set_option linter.unusedSimpArgs false
namespace Go.AM
open Go.Proofs
attribute [local simp] ltB_self eqB_refl ix_nat
abbrev Reg := TRegistration
def idP (i : TSubscriberID) (x : Reg) : Bool := eqB x.ID.Network i.Network && (eqB x.ID.Number i.Number && true)
def tP (n : Int) (t : TTempID) (x : Reg) : Bool := eqB x.Network n && (eqB x.TempID.Pool t.Pool && (eqB x.TempID.Number t.Number && true))
theorem iFindRegistration_eq {xs : List Reg} (hl : xs.length ≤ 2000000) (i : TSubscriberID) : iFindRegistration xs i = some (idxF (idP i) 0 xs) :=
  find_rule xs (idP i) (by omega) (fun k x hx hk => by
    simp only [iFindRegistration_L1, ltB_lt hk, ix_nat, hx, WR_succ (show k < 9223372036854775807 by omega), idP, Option.bind_some, cond_true]
    cases eqB x.ID.Network i.Network && (eqB x.ID.Number i.Number && true) <;> rfl) (by simp [iFindRegistration_L1])
theorem sFindRegistration_eq {xs : List Reg} (hl : xs.length ≤ 2000000) (i : TSubscriberID) : sFindRegistration xs i = some (idxF (idP i) 0 xs) :=
  find_rule xs (idP i) (by omega) (fun k x hx hk => by
    simp only [sFindRegistration_L1, ltB_lt hk, ix_nat, hx, WR_succ (show k < 9223372036854775807 by omega), idP, Option.bind_some, cond_true]
    cases eqB x.ID.Network i.Network && (eqB x.ID.Number i.Number && true) <;> rfl) (by simp [sFindRegistration_L1])
theorem sl21Temp_eq {xs : List Reg} (hl : xs.length ≤ 2000000) (n : Int) (t : TTempID) : sl21Temp xs n t = some (idxF (tP n t) 0 xs) :=
  find_rule xs (tP n t) (by omega) (fun k x hx hk => by
    simp only [sl21Temp_L1, ltB_lt hk, ix_nat, hx, WR_succ (show k < 9223372036854775807 by omega), tP, Option.bind_some, cond_true]
    cases eqB x.Network n <;> cases eqB x.TempID.Pool t.Pool && (eqB x.TempID.Number t.Number && true) <;> rfl) (by simp [sl21Temp_L1])
def vSub (x : TSubscriberID) : Bool := inR x.Network 0 3 && inR x.Number 0 99
theorem iIsValidSubscriberID_eq (x : TSubscriberID) : iIsValidSubscriberID x = some (vSub x) := by simp only [iIsValidSubscriberID, iInRange_eq, vSub, Option.bind_some]; cases inR x.Network 0 3 <;> rfl
theorem sIsValidSubscriberID_eq (x : TSubscriberID) : sIsValidSubscriberID x = some (vSub x) := by simp only [sIsValidSubscriberID, sl1In_eq, vSub, Option.bind_some]; cases inR x.Network 0 3 <;> rfl
def vTmp (x : TTempID) : Bool := inR x.Pool 0 3 && inR x.Number 0 9999
theorem iIsValidTempID_eq (x : TTempID) : iIsValidTempID x = some (vTmp x) := by simp only [iIsValidTempID, iInRange_eq, vTmp, Option.bind_some]; cases inR x.Pool 0 3 <;> rfl
theorem sIsValidTempID_eq (x : TTempID) : sIsValidTempID x = some (vTmp x) := by simp only [sIsValidTempID, sl1In_eq, vTmp, Option.bind_some]; cases inR x.Pool 0 3 <;> rfl
/-- What one entry must be. -/
def vOne (xs : List Reg) (k : Nat) (x : Reg) : Bool := vSub x.ID && (inR x.Network 0 3 && (inR x.Area 0 2 && (vTmp x.TempID && (!(xs.take k).any (idP x.ID) && !(xs.take k).any (tP x.Network x.TempID)))))
def vRegs (xs : List Reg) : Bool := leB ((xs.length : Nat) : Int) 8 && xs.zipIdx.all (fun y => vOne xs y.2 y.1)
theorem leB_not (a b : Int) : ltB a b = !leB b a := by
  by_cases h : a < b
  · rw [show ltB a b = true from by simp [ltB, h], show leB b a = false from by simp [leB]; omega]; rfl
  · rw [show ltB a b = false from by simp [ltB]; omega, show leB b a = true from by simp [leB]; omega]; rfl
theorem sAreValid_eq {xs : List Reg} (hl : xs.length ≤ 2000000) : sAreValidRegistrations xs = some (vRegs xs) := by
  have := allK (L := sAreValidRegistrations_L1 xs) xs (fun k x => vOne xs k x) (some (leB ((xs.length : Nat) : Int) 8)) (by omega)
    (fun k x hx hk => by
      have hsl : slOk xs 0 (k : Int) = true := by simp [slOk]; omega
      have ht : (xs.take k).length ≤ 2000000 := by simp; omega
      simp only [sAreValidRegistrations_L1, ltB_lt hk, ix_nat, hx, sIsValidSubscriberID_eq, sIsValidTempID_eq, sl1In_eq, hsl, sFindRegistration_eq ht, sl21Temp_eq ht, Int.toNat_natCast, WR_succ (show k < 9223372036854775807 by omega), Option.bind_some, cond_true, idx_nonneg (show (0 : Int) ≤ 0 by omega), vOne]
      cases vSub x.ID <;> cases inR x.Network 0 3 <;> cases inR x.Area 0 2 <;> cases vTmp x.TempID <;> cases (xs.take k).any (idP x.ID) <;> cases (xs.take k).any (tP x.Network x.TempID) <;> rfl) (by simp [sAreValidRegistrations_L1])
  unfold sAreValidRegistrations vRegs
  rw [this]
  cases leB ((xs.length : Nat) : Int) 8 <;> cases xs.zipIdx.all (fun y => vOne xs y.2 y.1) <;> rfl
theorem any_or {α : Type} (p q : α → Bool) : ∀ (l : List α), l.any (fun x => p x || q x) = (l.any p || l.any q)
  | [] => rfl
  | x :: l => by rw [List.any_cons, List.any_cons, List.any_cons, any_or p q l]; cases p x <;> cases q x <;> cases l.any p <;> rfl
theorem iAreValid_eq {xs : List Reg} (hl : xs.length ≤ 2000000) : iAreValidRegistrations xs = some (vRegs xs) := by
  have hin : ∀ (k : Nat) (x : Reg), k < xs.length → iter (iAreValidRegistrations_L2 xs (k : Int) x) FU 0 = bif (xs.take k).any (fun y => idP x.ID y || tP x.Network x.TempID y) then some (.done false) else some (.next ((k + 1 : Nat) : Int)) := by
    intro k x hk
    have := iter_for (step := iAreValidRegistrations_L2 xs (k : Int) x) (xs.take k) (fun j (_ : Unit) => (j : Int)) (fun _ y => bif idP x.ID y || tP x.Network x.TempID y then some (.done (.done false)) else some (.next ())) (fun _ => some (.next ((k + 1 : Nat) : Int))) (by simp; omega)
      (fun j y s hy hj => by
        have hj' : j < (xs.take k).length := hj
        simp only [iAreValidRegistrations_L2, Int.toNat_natCast, ltB_lt hj', ix_nat, hy, WR_succ (show j < 9223372036854775807 by simp at hj; omega), Option.bind_some, cond_true, idP, tP]
        cases eqB y.ID.Network x.ID.Network && (eqB y.ID.Number x.ID.Number && true) <;> cases eqB y.Network x.Network <;> cases eqB y.TempID.Pool x.TempID.Pool && (eqB y.TempID.Number x.TempID.Number && true) <;> rfl)
      (fun s => by simp only [iAreValidRegistrations_L2, Int.toNat_natCast, ltB_self, cond_false, WR_succ (show k < 9223372036854775807 by omega)]) ()
    refine Eq.trans (show iter (iAreValidRegistrations_L2 xs (k : Int) x) FU 0 = _ from this) ?_
    have key : ∀ ys : List Reg, forL (fun (_ : Unit) y => bif idP x.ID y || tP x.Network x.TempID y then some (Step.done (Step.done false)) else some (.next ())) (fun _ => some (Step.next (ρ := Bool) ((k + 1 : Nat) : Int))) ys () = bif ys.any (fun y => idP x.ID y || tP x.Network x.TempID y) then some (.done false) else some (.next ((k + 1 : Nat) : Int)) := by
      intro ys
      induction ys with
      | nil => rfl
      | cons y ys ih =>
        rw [forL, List.any_cons]
        cases hp : (idP x.ID y || tP x.Network x.TempID y) with
        | true => rfl
        | false => simp only [cond_false, Bool.false_or]; exact ih
    exact key _
  have := allK (L := iAreValidRegistrations_L1 xs) xs (fun k x => vOne xs k x) (some true) (by omega)
    (fun k x hx hk => by
      have hsl : slOk xs 0 (k : Int) = true := by simp [slOk]; omega
      simp only [iAreValidRegistrations_L1, ltB_lt hk, ix_nat, hx, iIsValidSubscriberID_eq, iIsValidTempID_eq, iInRange_eq, hsl, hin k x hk, any_or, Option.bind_some, cond_true, vOne]
      cases vSub x.ID <;> cases inR x.Network 0 3 <;> cases inR x.Area 0 2 <;> cases vTmp x.TempID <;> cases (xs.take k).any (idP x.ID) <;> cases (xs.take k).any (tP x.Network x.TempID) <;> rfl) (by simp [iAreValidRegistrations_L1])
  unfold iAreValidRegistrations vRegs
  rw [this, leB_not]
  cases leB ((xs.length : Nat) : Int) 8 <;> cases xs.zipIdx.all (fun y => vOne xs y.2 y.1) <;> rfl
theorem cpL_self {α : Type} (z : α) (xs : List α) : cpL (List.replicate (((xs.length : Nat) : Int)).toNat z) xs = xs := by
  simp [cpL]
theorem icopy_eq {xs : List Reg} (hl : xs.length ≤ 1048576) : icopyItems_impl_Registration xs = some xs := by
  have hm : mkOk 48 ((xs.length : Nat) : Int) ((xs.length : Nat) : Int) = true := by simp only [mkOk, decide_eq_true_eq]; omega
  rw [icopyItems_impl_Registration, hm, cpL_self]; rfl
theorem scopy_eq {xs : List Reg} (hl : xs.length ≤ 1048576) : sl21Copy xs = some xs := by
  have : apOk 48 (([] : List Reg) ++ xs).length = true := apOk_small (by omega) (by simp; omega)
  rw [sl21Copy, this]; rfl
theorem idx_at {α : Type} {p : α → Bool} {xs : List α} (h : leB 0 (idxF p 0 xs) = true) : ∃ (j : Nat) (x : α), idxF p 0 xs = (j : Int) ∧ xs[j]? = some x ∧ p x = true := by
  rcases idx_cases p xs 0 with ⟨h1, _⟩ | ⟨j, h1, x, h2, h3, _⟩
  · have h1' : idxF p 0 xs = -1 := h1
    rw [h1'] at h; simp [leB] at h
  · exact ⟨j, x, by simpa using h1, h2, h3⟩
/-- What the register becomes. -/
def regU (xs : List Reg) (r : Reg) : List Reg × Int × Bool :=
  let k := idxF (idP r.ID) 0 xs
  let ys := bif leB 0 k then xs.set k.toNat r else xs ++ [r]
  let old := bif leB 0 k then (match xs[k.toNat]? with | some x => x.Network | none => -1) else -1
  bif vRegs ys then (ys, old, true) else (xs, -1, false)
theorem iRegister_eq {xs : List Reg} (hl : xs.length ≤ 1048576) (r : Reg) : iRegister xs r = some (regU xs r) := by
  simp only [iRegister, icopy_eq (show xs.length ≤ 1048576 by omega), iFindRegistration_eq (show xs.length ≤ 2000000 by omega), Option.bind_some, regU]
  cases hk : leB 0 (idxF (idP r.ID) 0 xs) with
  | false =>
    have ha : apOk 48 (xs ++ [r]).length = true := apOk_small (by omega) (by simp; omega)
    simp only [cond_false, ha, cond_true, Option.bind_some]
    rw [iAreValid_eq (by simp; omega)]
    cases hv : vRegs (xs ++ [r]) <;> simp [hv]
  | true =>
    obtain ⟨j, x, e, hx, _⟩ := idx_at hk
    simp only [e, cond_true, ix_nat, hx, Int.toNat_natCast, Option.bind_some]
    rw [iAreValid_eq (by simp; omega)]
    cases hv : vRegs (xs.set j r) <;> simp [hv]
theorem sRegister_eq {xs : List Reg} (hl : xs.length ≤ 1048576) (r : Reg) : sRegister xs r = some (regU xs r) := by
  simp only [sRegister, scopy_eq (show xs.length ≤ 1048576 by omega), sFindRegistration_eq (show xs.length ≤ 2000000 by omega), Option.bind_some, regU]
  cases hk : leB 0 (idxF (idP r.ID) 0 xs) with
  | false =>
    have ha : apOk 48 (xs ++ [r]).length = true := apOk_small (by omega) (by simp; omega)
    simp only [cond_false, ha, cond_true, Option.bind_some]
    rw [sAreValid_eq (by simp; omega)]
    cases hv : vRegs (xs ++ [r]) <;> simp [hv]
  | true =>
    obtain ⟨j, x, e, hx, _⟩ := idx_at hk
    simp only [e, cond_true, ix_nat, hx, Int.toNat_natCast, Option.bind_some]
    rw [sAreValid_eq (by simp; omega)]
    cases hv : vRegs (xs.set j r) <;> simp [hv]
end Go.AM
