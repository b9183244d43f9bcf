/-
  Own text: a part of the abstract machine for this seat (Ph). No statement is proved here.
-/
import Derived.Test.YtghkejhhneijlaaGhl
import Derived.Test.YtghkejhhneijlaaPhm
set_option linter.unusedVariables false
set_option linter.unusedSimpArgs false
namespace Go.AM
open Go.Proofs
attribute [local simp] ltB_self eqB_refl ix_nat
def inR (n a b : Int) : Bool := leB a n && leB n b
theorem iInRange_eq (n a b : Int) : iInRange n a b = some (inR n a b) := by unfold iInRange inR; cases leB a n <;> rfl
theorem sl1In_eq (n a b : Int) : sl1In n a b = some (inR n a b) := by unfold sl1In inR; cases leB a n <;> rfl
theorem inR_iff {n a b : Int} : inR n a b = true ↔ a ≤ n ∧ n ≤ b := by simp [inR, leB]
theorem inR_and (i : Int) (m n : Nat) : (inR i 0 ((m : Int) - 1) && inR i 0 ((n : Int) - 1)) = inR i 0 ((if (n : Int) < m then (n : Int) else m) - 1) := by
  rw [Bool.eq_iff_iff, Bool.and_eq_true, inR_iff, inR_iff, inR_iff]
  split <;> omega
theorem WR_pred {n : Nat} (h : n ≤ 1048576) : WR ((n : Int) - 1) = (n : Int) - 1 := WR_in (by omega)
theorem sMin_eq (a b : Int) : sMin a b = some (if b < a then b else a) := by
  unfold sMin ltB; by_cases h : b < a <;> simp [h]
theorem iMin_eq (a b : Int) : iMin a b = some (if b < a then b else a) := by
  unfold iMin ltB; by_cases h : b < a <;> simp [h]
theorem iMax_eq (a b : Int) : iMax a b = some (if a < b then b else a) := by
  unfold iMax ltB; by_cases h : a < b <;> simp [h]
theorem ix_in {α : Type} {xs : List α} {i : Int} (h0 : 0 ≤ i) (h1 : i < xs.length) : ∃ x, x ∈ xs ∧ ix xs i = some x := by
  obtain ⟨k, rfl⟩ := Int.eq_ofNat_of_zero_le h0
  have hk : k < xs.length := by omega
  exact ⟨xs[k], List.getElem_mem hk, by rw [ix_nat, List.getElem?_eq_getElem hk]⟩
def hasD (n : TNetwork) (i : Int) : Bool := inR i 0 ((n.Devices.length : Int) - 1) && inR i 0 ((n.Sessions.length : Int) - 1)
def hasA (n : TNetwork) (i : Int) : Bool := inR i 0 ((n.Accounts.length : Int) - 1) && inR i 0 ((n.Sessions.length : Int) - 1)
section
variable {n : TNetwork} (h : okTNetwork n)
include h
theorem ihasDevice_eq (i : Int) : ihasDevice n i = some (hasD n i) := by
  simp only [ihasDevice, iInRange_eq, WR_pred h.2.1.1, WR_pred h.2.2.1.1, Option.bind_some, hasD]
  cases inR i 0 ((n.Devices.length : Int) - 1) <;> rfl
theorem sHas_eq (i : Int) : sl34Has n i = some (hasD n i) := by
  have hw : WR ((if (n.Sessions.length : Int) < n.Devices.length then (n.Sessions.length : Int) else n.Devices.length) - 1) = (if (n.Sessions.length : Int) < n.Devices.length then (n.Sessions.length : Int) else n.Devices.length) - 1 := by
    have := h.2.1.1; have := h.2.2.1.1; split <;> exact WR_in (by omega)
  simp only [sl34Has, sMin_eq, sl1In_eq, Option.bind_some, hw, hasD, inR_and]
theorem ihasAccount_eq (i : Int) : ihasAccount n i = some (hasA n i) := by
  simp only [ihasAccount, iInRange_eq, WR_pred h.2.2.2.1.1, WR_pred h.2.2.1.1, Option.bind_some, hasA]
  cases inR i 0 ((n.Accounts.length : Int) - 1) <;> rfl
theorem sAccount_eq (i : Int) : sl34Account n i = some (hasA n i) := by
  have hw : WR ((if (n.Sessions.length : Int) < n.Accounts.length then (n.Sessions.length : Int) else n.Accounts.length) - 1) = (if (n.Sessions.length : Int) < n.Accounts.length then (n.Sessions.length : Int) else n.Accounts.length) - 1 := by
    have := h.2.2.2.1.1; have := h.2.2.1.1; split <;> exact WR_in (by omega)
  simp only [sl34Account, sMin_eq, sl1In_eq, Option.bind_some, hw, hasA, inR_and]
omit h in
theorem hasD_ix {i : Int} (hd : hasD n i = true) : ∃ d s, d ∈ n.Devices ∧ s ∈ n.Sessions ∧ ix n.Devices i = some d ∧ ix n.Sessions i = some s := by
  simp only [hasD, Bool.and_eq_true, inR_iff] at hd
  obtain ⟨d, d1, d2⟩ := ix_in (xs := n.Devices) (i := i) (by omega) (by omega)
  obtain ⟨s, s1, s2⟩ := ix_in (xs := n.Sessions) (i := i) (by omega) (by omega)
  exact ⟨d, s, d1, s1, d2, s2⟩
omit h in
theorem hasA_ix {i : Int} (hd : hasA n i = true) : ∃ d s, d ∈ n.Accounts ∧ s ∈ n.Sessions ∧ ix n.Accounts i = some d ∧ ix n.Sessions i = some s := by
  simp only [hasA, Bool.and_eq_true, inR_iff] at hd
  obtain ⟨d, d1, d2⟩ := ix_in (xs := n.Accounts) (i := i) (by omega) (by omega)
  obtain ⟨s, s1, s2⟩ := ix_in (xs := n.Sessions) (i := i) (by omega) (by omega)
  exact ⟨d, s, d1, s1, d2, s2⟩
theorem awd_eq (i : Int) : ∃ r, iAcknowledgedWereDelivered n i = some r ∧ sAcknowledgedWereDelivered n i = some r := by
  simp only [iAcknowledgedWereDelivered, sAcknowledgedWereDelivered, ihasDevice_eq h, sHas_eq h, iAcknowledgedPackets, sAcknowledgedPackets, Option.bind_some]
  cases hd : hasD n i with
  | false => exact ⟨_, rfl, rfl⟩
  | true => obtain ⟨d, s, _, _, e1, e2⟩ := hasD_ix hd; rw [e1, e2]; exact ⟨_, rfl, rfl⟩
theorem charged_eq (i : Int) : ∃ r, iChargedBytes n i = some r ∧ sChargedBytes n i = some r := by
  simp only [iChargedBytes, sChargedBytes, ihasAccount_eq h, sAccount_eq h, Option.bind_some]
  cases hd : hasA n i with
  | false => exact ⟨_, rfl, rfl⟩
  | true => obtain ⟨d, s, _, _, e1, e2⟩ := hasA_ix hd; rw [e1, e2]; exact ⟨_, rfl, rfl⟩
theorem served_eq (i : Int) : ∃ r, iIsServed n i = some r ∧ sIsServed n i = some r := by
  simp only [iIsServed, sIsServed, ihasDevice_eq h, sHas_eq h, iAcknowledgedPackets, sAcknowledgedPackets, Option.bind_some]
  cases hd : hasD n i with
  | false => exact ⟨_, rfl, rfl⟩
  | true =>
    obtain ⟨d, s, _, _, e1, e2⟩ := hasD_ix hd; rw [e1, e2]
    simp only [Bool.not_true, cond_false, Option.bind_some]
    cases eqB ((d.Receiver.Delivered.length : Nat) : Int) ((s.Submitted.length : Nat) : Int) <;> exact ⟨_, rfl, rfl⟩
theorem cellUp_eq (c : Int) : ∃ r, iIsCellUp n c = some r ∧ sIsCellUp n c = some r := by
  have hc := h.1.1
  have hw : WR ((if (6 : Int) < n.Map.Cells.length then (6 : Int) else n.Map.Cells.length) - 1) = (if (6 : Int) < n.Map.Cells.length then (6 : Int) else n.Map.Cells.length) - 1 := by
    split <;> exact WR_in (by omega)
  have ha := inR_and c n.Map.Cells.length 6
  simp only [iIsCellUp, iisCell, sIsCellUp, iInRange_eq, sMin_eq, sl1In_eq, WR_pred hc, hw, Option.bind_some]
  rw [show ((6 : Nat) : Int) = 6 from rfl] at ha
  rw [← ha]
  cases h1 : inR c 0 ((n.Map.Cells.length : Int) - 1) with
  | false => exact ⟨_, rfl, rfl⟩
  | true =>
    have h2 := inR_iff.1 h1
    have hl : leB 0 c = true := by simp [leB]; omega
    have h6 : inR c 0 (6 - 1) = ltB c 6 := by rw [Bool.eq_iff_iff, inR_iff]; simp [ltB]; omega
    simp only [h6, hl, cond_true, Bool.true_and]
    cases ltB c 6 <;> exact ⟨_, rfl, rfl⟩
theorem reach_eq (i : Int) : ∃ r, iIsReachable n i = some r ∧ sIsReachable n i = some r := by
  simp only [iIsReachable, sIsReachable, iInRange_eq, sl1In_eq, WR_pred h.2.1.1, Option.bind_some]
  cases h1 : inR i 0 ((n.Devices.length : Int) - 1) with
  | false => exact ⟨_, rfl, rfl⟩
  | true =>
    have h2 := inR_iff.1 h1
    obtain ⟨d, d1, d2⟩ := ix_in (xs := n.Devices) (i := i) (by omega) (by omega)
    obtain ⟨r, e1, e2⟩ := cellUp_eq h d.Cell
    simp only [d2, e1, e2, cond_true, Option.bind_some]
    cases eqB d.State 0 <;> exact ⟨_, rfl, rfl⟩
end
theorem bytes_eq {s : TSession} (h : okTSession s) (n : Int) : ∃ r, iBytesOfFirst s n = some r ∧ sBytesOfFirst s n = some r := by
  have hl : s.Submitted.length ≤ 1048576 := h.2.1.1
  obtain ⟨m, hm, hmn⟩ : ∃ m : Nat, (if ((s.Submitted.length : Nat) : Int) < (if n < 0 then 0 else n) then ((s.Submitted.length : Nat) : Int) else (if n < 0 then 0 else n)) = (m : Int) ∧ m ≤ s.Submitted.length :=
    ⟨(if ((s.Submitted.length : Nat) : Int) < (if n < 0 then 0 else n) then ((s.Submitted.length : Nat) : Int) else (if n < 0 then 0 else n)).toNat, by split <;> split <;> omega, by split <;> split <;> omega⟩
  have hlt : (s.Submitted.take m).length = m := by simp; omega
  have hpay := iter_for (step := ipayloadBytes_L1 (s.Submitted.take m)) (s.Submitted.take m) (fun k (v : Int) => (v, (k : Int))) (fun v x => some (.next (WR (v + ((x.Data.length : Nat) : Int))))) some (by omega)
    (fun k x v hx hk => by simp only [ipayloadBytes_L1, ltB_lt hk, ix_nat, hx, WR_succ (show k < 9223372036854775807 by omega), cond_true, Option.bind_some, stepM_next]) (fun v => by simp [ipayloadBytes_L1]) 0
  have hspec := iter_for (step := sBytesOfFirst_L1 s n) (s.Submitted.take m) (fun k (v : Int) => (v, (k : Int))) (fun v x => some (.next (WR (v + ((x.Data.length : Nat) : Int))))) some (by omega)
    (fun k x v hx hk => by
      rw [hlt] at hk
      have hx' : s.Submitted[k]? = some x := by rw [List.getElem?_take, if_pos hk] at hx; exact hx
      have h1 : ltB (k : Int) n = true := by simp [ltB]; revert hm; split <;> split <;> omega
      have h2 : ltB (k : Int) ((s.Submitted.length : Nat) : Int) = true := ltB_lt (by omega)
      simp [sBytesOfFirst_L1, h1, h2, hx', WR_succ (show k < 9223372036854775807 by omega)]) (fun v => by
      rw [hlt]
      have : ltB (m : Int) ((s.Submitted.length : Nat) : Int) = false ∨ ltB (m : Int) n = false := by
        simp only [ltB, decide_eq_false_iff_not]; revert hm; split <;> split <;> omega
      rcases this with h1 | h1
      · simp [sBytesOfFirst_L1, h1]
      · simp only [sBytesOfFirst_L1, h1]; cases ltB (m : Int) ((s.Submitted.length : Nat) : Int) <;> rfl) 0
  have hsl : slOk s.Submitted 0 (m : Int) = true := by simp [slOk]; omega
  have htot : ∀ (xs : List TPayload) (v : Int), ∃ r, forL (fun (v : Int) (x : TPayload) => some (Step.next (WR (v + ((x.Data.length : Nat) : Int))))) some xs v = some (r : Int) := by
    intro xs
    induction xs with
    | nil => intro v; exact ⟨v, rfl⟩
    | cons x xs ih => intro v; rw [forL]; exact ih _
  obtain ⟨r, hr⟩ := htot (s.Submitted.take m) 0
  refine ⟨r, ?_, ?_⟩
  · simp only [iBytesOfFirst, iMax_eq, iMin_eq, Option.bind_some, hm, hsl, cond_true, Int.toNat_natCast, ipayloadBytes]
    rw [show iter (ipayloadBytes_L1 (s.Submitted.take m)) FU (0, 0) = _ from hpay, hr]; rfl
  · simp only [sBytesOfFirst]
    rw [show iter (sBytesOfFirst_L1 s n) FU (0, 0) = _ from hspec, hr]; rfl
theorem lFnExactBytesOfFirst_ok (a : TSession) (hp : preTSession a) (n : Int) (hn : (Lit.int .i64 n).wf = true) : lFnExactBytesOfFirst a n = some true := by
  unfold lFnExactBytesOfFirst
  obtain ⟨r1, a1, b1, c1⟩ := psz_Session a 1048576 hp (by omega) (by omega)
  rcases c1 with ⟨c1, rfl⟩ | ⟨c1, d1, e1⟩
  · simp [a1, c1]
  obtain ⟨r, h1, h2⟩ := bytes_eq e1 n
  simp only [a1, c1, pto_Session a e1, h1, h2, eqB_refl, peq_Session a e1, Option.bind_some, cond_false, Bool.not_true]
theorem lFnExactIsQuiescent_ok (a : TNetwork) (hp : preTNetwork a) : lFnExactIsQuiescent a = some true := by
  unfold lFnExactIsQuiescent
  obtain ⟨r1, a1, b1, c1⟩ := psz_Network a 1048576 hp (by omega) (by omega)
  rcases c1 with ⟨c1, rfl⟩ | ⟨c1, d1, e1⟩
  · simp [a1, c1]
  have hb : ∀ b : Bool, booB b b = true := fun b => by simp
  simp only [a1, c1, pto_Network a e1, iIsQuiescent, sIsQuiescent, hb, peq_Network a e1, Option.bind_some, cond_false, Bool.not_true]
theorem lFnExactAcknowledgedWereDelivered_ok (a : TNetwork) (hp : preTNetwork a) (n : Int) (hn : (Lit.int .i64 n).wf = true) : lFnExactAcknowledgedWereDelivered a n = some true := by
  unfold lFnExactAcknowledgedWereDelivered
  obtain ⟨r1, a1, b1, c1⟩ := psz_Network a 1048576 hp (by omega) (by omega)
  rcases c1 with ⟨c1, rfl⟩ | ⟨c1, d1, e1⟩
  · simp [a1, c1]
  have hb : ∀ b : Bool, booB b b = true := fun b => by simp
  obtain ⟨r, h1, h2⟩ := awd_eq e1 n
  simp only [a1, c1, pto_Network a e1, h1, h2, hb, peq_Network a e1, Option.bind_some, cond_false, Bool.not_true]
theorem lFnExactIsReachable_ok (a : TNetwork) (hp : preTNetwork a) (n : Int) (hn : (Lit.int .i64 n).wf = true) : lFnExactIsReachable a n = some true := by
  unfold lFnExactIsReachable
  obtain ⟨r1, a1, b1, c1⟩ := psz_Network a 1048576 hp (by omega) (by omega)
  rcases c1 with ⟨c1, rfl⟩ | ⟨c1, d1, e1⟩
  · simp [a1, c1]
  have hb : ∀ b : Bool, booB b b = true := fun b => by simp
  obtain ⟨r, h1, h2⟩ := reach_eq e1 n
  simp only [a1, c1, pto_Network a e1, h1, h2, hb, peq_Network a e1, Option.bind_some, cond_false, Bool.not_true]
theorem lFnExactChargedBytes_ok (a : TNetwork) (hp : preTNetwork a) (n : Int) (hn : (Lit.int .i64 n).wf = true) : lFnExactChargedBytes a n = some true := by
  unfold lFnExactChargedBytes
  obtain ⟨r1, a1, b1, c1⟩ := psz_Network a 1048576 hp (by omega) (by omega)
  rcases c1 with ⟨c1, rfl⟩ | ⟨c1, d1, e1⟩
  · simp [a1, c1]
  obtain ⟨r, h1, h2⟩ := charged_eq e1 n
  simp only [a1, c1, pto_Network a e1, h1, h2, eqB_refl, peq_Network a e1, Option.bind_some, cond_false, Bool.not_true]
theorem lFnExactIsServed_ok (a : TNetwork) (hp : preTNetwork a) (n : Int) (hn : (Lit.int .i64 n).wf = true) : lFnExactIsServed a n = some true := by
  unfold lFnExactIsServed
  obtain ⟨r1, a1, b1, c1⟩ := psz_Network a 1048576 hp (by omega) (by omega)
  rcases c1 with ⟨c1, rfl⟩ | ⟨c1, d1, e1⟩
  · simp [a1, c1]
  have hb : ∀ b : Bool, booB b b = true := fun b => by simp
  obtain ⟨r, h1, h2⟩ := served_eq e1 n
  simp only [a1, c1, pto_Network a e1, h1, h2, hb, peq_Network a e1, Option.bind_some, cond_false, Bool.not_true]
theorem fnExactBytesOfFirst_fn (x0 : List D) (h0 : WTs [.i .i64, .i .i64, .i .i64, .i .i64, .i .i64, .i .i64, .i .i64, .l [.i .i64], .i .i64, .i .i64, .i .i64, .i .i64, .i .i64, .i .i64, .i .i64, .i .i64, .i .i64, .i .i64, .i .i64, .i .i64, .i .i64, .i .i64, .i .i64, .l [.l [.i .u8]], .i .i64, .l [.i .i64, .l [.i .u8]], .i .i64, .i .i64, .i .i64, .i .i64] x0) (x1 : D) (h1 : WT (.i .i64) x1) : Fn Try.prog 3 [.agg x0, .c x1] [rB true] := by
  obtain ⟨a0, rfl, p0⟩ := wtTSession h0
  obtain ⟨a1, rfl, w1⟩ := h1.gi
  exact lFnExactBytesOfFirst_c (lFnExactBytesOfFirst_ok a0 p0 a1 w1)
theorem fnExactIsQuiescent_fn (x0 : List D) (h0 : WTs [.l [.i .i64, .l [.i .i64]], .l [.i .i64, .i .i64, .i .i64, .i .i64, .i .i64, .i .i64, .i .i64, .i .i64, .i .i64, .b, .i .i64, .i .i64, .l [.i .i64, .l [.i .u8]], .l [.l [.i .u8]]], .l [.i .i64, .i .i64, .i .i64, .i .i64, .i .i64, .i .i64, .i .i64, .l [.i .i64], .i .i64, .i .i64, .i .i64, .i .i64, .i .i64, .i .i64, .i .i64, .i .i64, .i .i64, .i .i64, .i .i64, .i .i64, .i .i64, .i .i64, .i .i64, .l [.l [.i .u8]], .i .i64, .l [.i .i64, .l [.i .u8]], .i .i64, .i .i64, .i .i64, .i .i64], .l [.i .i64, .i .i64, .i .i64, .l [.i .i64, .i .i64]], .l [.i .i64, .b, .b, .i .i64, .i .i64, .i .i64, .i .i64, .i .i64, .i .i64, .i .i64, .i .i64, .i .i64, .i .i64, .i .i64, .i .i64, .i .i64, .i .i64, .i .i64, .i .i64, .l [.i .u8], .i .i64], .i .i64, .i .i64, .i .i64, .i .i64, .i .i64] x0) : Fn Try.prog 4 [.agg x0] [rB true] := by
  obtain ⟨a0, rfl, p0⟩ := wtTNetwork h0
  exact lFnExactIsQuiescent_c (lFnExactIsQuiescent_ok a0 p0)
theorem fnExactAcknowledgedWereDelivered_fn (x0 : List D) (h0 : WTs [.l [.i .i64, .l [.i .i64]], .l [.i .i64, .i .i64, .i .i64, .i .i64, .i .i64, .i .i64, .i .i64, .i .i64, .i .i64, .b, .i .i64, .i .i64, .l [.i .i64, .l [.i .u8]], .l [.l [.i .u8]]], .l [.i .i64, .i .i64, .i .i64, .i .i64, .i .i64, .i .i64, .i .i64, .l [.i .i64], .i .i64, .i .i64, .i .i64, .i .i64, .i .i64, .i .i64, .i .i64, .i .i64, .i .i64, .i .i64, .i .i64, .i .i64, .i .i64, .i .i64, .i .i64, .l [.l [.i .u8]], .i .i64, .l [.i .i64, .l [.i .u8]], .i .i64, .i .i64, .i .i64, .i .i64], .l [.i .i64, .i .i64, .i .i64, .l [.i .i64, .i .i64]], .l [.i .i64, .b, .b, .i .i64, .i .i64, .i .i64, .i .i64, .i .i64, .i .i64, .i .i64, .i .i64, .i .i64, .i .i64, .i .i64, .i .i64, .i .i64, .i .i64, .i .i64, .i .i64, .l [.i .u8], .i .i64], .i .i64, .i .i64, .i .i64, .i .i64, .i .i64] x0) (x1 : D) (h1 : WT (.i .i64) x1) : Fn Try.prog 5 [.agg x0, .c x1] [rB true] := by
  obtain ⟨a0, rfl, p0⟩ := wtTNetwork h0
  obtain ⟨a1, rfl, w1⟩ := h1.gi
  exact lFnExactAcknowledgedWereDelivered_c (lFnExactAcknowledgedWereDelivered_ok a0 p0 a1 w1)
theorem fnExactIsReachable_fn (x0 : List D) (h0 : WTs [.l [.i .i64, .l [.i .i64]], .l [.i .i64, .i .i64, .i .i64, .i .i64, .i .i64, .i .i64, .i .i64, .i .i64, .i .i64, .b, .i .i64, .i .i64, .l [.i .i64, .l [.i .u8]], .l [.l [.i .u8]]], .l [.i .i64, .i .i64, .i .i64, .i .i64, .i .i64, .i .i64, .i .i64, .l [.i .i64], .i .i64, .i .i64, .i .i64, .i .i64, .i .i64, .i .i64, .i .i64, .i .i64, .i .i64, .i .i64, .i .i64, .i .i64, .i .i64, .i .i64, .i .i64, .l [.l [.i .u8]], .i .i64, .l [.i .i64, .l [.i .u8]], .i .i64, .i .i64, .i .i64, .i .i64], .l [.i .i64, .i .i64, .i .i64, .l [.i .i64, .i .i64]], .l [.i .i64, .b, .b, .i .i64, .i .i64, .i .i64, .i .i64, .i .i64, .i .i64, .i .i64, .i .i64, .i .i64, .i .i64, .i .i64, .i .i64, .i .i64, .i .i64, .i .i64, .i .i64, .l [.i .u8], .i .i64], .i .i64, .i .i64, .i .i64, .i .i64, .i .i64] x0) (x1 : D) (h1 : WT (.i .i64) x1) : Fn Try.prog 6 [.agg x0, .c x1] [rB true] := by
  obtain ⟨a0, rfl, p0⟩ := wtTNetwork h0
  obtain ⟨a1, rfl, w1⟩ := h1.gi
  exact lFnExactIsReachable_c (lFnExactIsReachable_ok a0 p0 a1 w1)
theorem fnExactChargedBytes_fn (x0 : List D) (h0 : WTs [.l [.i .i64, .l [.i .i64]], .l [.i .i64, .i .i64, .i .i64, .i .i64, .i .i64, .i .i64, .i .i64, .i .i64, .i .i64, .b, .i .i64, .i .i64, .l [.i .i64, .l [.i .u8]], .l [.l [.i .u8]]], .l [.i .i64, .i .i64, .i .i64, .i .i64, .i .i64, .i .i64, .i .i64, .l [.i .i64], .i .i64, .i .i64, .i .i64, .i .i64, .i .i64, .i .i64, .i .i64, .i .i64, .i .i64, .i .i64, .i .i64, .i .i64, .i .i64, .i .i64, .i .i64, .l [.l [.i .u8]], .i .i64, .l [.i .i64, .l [.i .u8]], .i .i64, .i .i64, .i .i64, .i .i64], .l [.i .i64, .i .i64, .i .i64, .l [.i .i64, .i .i64]], .l [.i .i64, .b, .b, .i .i64, .i .i64, .i .i64, .i .i64, .i .i64, .i .i64, .i .i64, .i .i64, .i .i64, .i .i64, .i .i64, .i .i64, .i .i64, .i .i64, .i .i64, .i .i64, .l [.i .u8], .i .i64], .i .i64, .i .i64, .i .i64, .i .i64, .i .i64] x0) (x1 : D) (h1 : WT (.i .i64) x1) : Fn Try.prog 7 [.agg x0, .c x1] [rB true] := by
  obtain ⟨a0, rfl, p0⟩ := wtTNetwork h0
  obtain ⟨a1, rfl, w1⟩ := h1.gi
  exact lFnExactChargedBytes_c (lFnExactChargedBytes_ok a0 p0 a1 w1)
theorem fnExactIsServed_fn (x0 : List D) (h0 : WTs [.l [.i .i64, .l [.i .i64]], .l [.i .i64, .i .i64, .i .i64, .i .i64, .i .i64, .i .i64, .i .i64, .i .i64, .i .i64, .b, .i .i64, .i .i64, .l [.i .i64, .l [.i .u8]], .l [.l [.i .u8]]], .l [.i .i64, .i .i64, .i .i64, .i .i64, .i .i64, .i .i64, .i .i64, .l [.i .i64], .i .i64, .i .i64, .i .i64, .i .i64, .i .i64, .i .i64, .i .i64, .i .i64, .i .i64, .i .i64, .i .i64, .i .i64, .i .i64, .i .i64, .i .i64, .l [.l [.i .u8]], .i .i64, .l [.i .i64, .l [.i .u8]], .i .i64, .i .i64, .i .i64, .i .i64], .l [.i .i64, .i .i64, .i .i64, .l [.i .i64, .i .i64]], .l [.i .i64, .b, .b, .i .i64, .i .i64, .i .i64, .i .i64, .i .i64, .i .i64, .i .i64, .i .i64, .i .i64, .i .i64, .i .i64, .i .i64, .i .i64, .i .i64, .i .i64, .i .i64, .l [.i .u8], .i .i64], .i .i64, .i .i64, .i .i64, .i .i64, .i .i64] x0) (x1 : D) (h1 : WT (.i .i64) x1) : Fn Try.prog 8 [.agg x0, .c x1] [rB true] := by
  obtain ⟨a0, rfl, p0⟩ := wtTNetwork h0
  obtain ⟨a1, rfl, w1⟩ := h1.gi
  exact lFnExactIsServed_c (lFnExactIsServed_ok a0 p0 a1 w1)
end Go.AM
