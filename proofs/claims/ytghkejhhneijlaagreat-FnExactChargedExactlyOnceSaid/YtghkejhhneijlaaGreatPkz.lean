/-
  Own text: a part of the abstract machine for this seat (Pkz). No statement is proved here.
-/
import Derived.Test.YtghkejhhneijlaaGreatGkl
import Derived.Test.YtghkejhhneijlaaGreatPkm
set_option linter.unusedVariables false
set_option linter.unusedSimpArgs false
namespace Go.AM
open Go.Proofs
attribute [local simp] ltB_self eqB_refl ix_nat
theorem iInRange_eq (n a b : Int) : iInRange n a b = some (inR n a b) := by unfold iInRange inR; cases leB a n <;> rfl
theorem sl1In_eq (n a b : Int) : sl1In n a b = some (inR n a b) := by unfold sl1In inR; cases leB a n <;> rfl
theorem sMin_eq (a b : Int) : sMin a b = some (if b < a then b else a) := by
  unfold sMin ltB; by_cases h : b < a <;> simp [h]
theorem iMin_eq (a b : Int) : iMin a b = some (if b < a then b else a) := by
  unfold iMin ltB; by_cases h : b < a <;> simp [h]
theorem iMax_eq (a b : Int) : iMax a b = some (if a < b then b else a) := by
  unfold iMax ltB; by_cases h : a < b <;> simp [h]
def hasD (n : TNetwork) (i : Int) : Bool := inR i 0 ((n.Devices.length : Int) - 1) && inR i 0 ((n.Sessions.length : Int) - 1)
def hasA (n : TNetwork) (i : Int) : Bool := inR i 0 ((n.Accounts.length : Int) - 1) && inR i 0 ((n.Sessions.length : Int) - 1)
section
variable {n : TNetwork} (h : okTNetwork n)
include h
theorem ihasDevice_eq (i : Int) : ihasDevice n i = some (hasD n i) := by
  simp only [ihasDevice, iInRange_eq, WR_pred h.2.1.1, WR_pred h.2.2.1.1, Option.bind_some, hasD]
  cases inR i 0 ((n.Devices.length : Int) - 1) <;> rfl
theorem sHas_eq (i : Int) : sl34Has n i = some (hasD n i) := by
  have hw : WR ((if (n.Sessions.length : Int) < n.Devices.length then (n.Sessions.length : Int) else n.Devices.length) - 1) = (if (n.Sessions.length : Int) < n.Devices.length then (n.Sessions.length : Int) else n.Devices.length) - 1 := by
    have := h.2.1.1; have := h.2.2.1.1; split <;> exact WR_in (by omega)
  simp only [sl34Has, sMin_eq, sl1In_eq, Option.bind_some, hw, hasD, inR_and]
theorem ihasAccount_eq (i : Int) : ihasAccount n i = some (hasA n i) := by
  simp only [ihasAccount, iInRange_eq, WR_pred h.2.2.2.1.1, WR_pred h.2.2.1.1, Option.bind_some, hasA]
  cases inR i 0 ((n.Accounts.length : Int) - 1) <;> rfl
theorem sAccount_eq (i : Int) : sl34Account n i = some (hasA n i) := by
  have hw : WR ((if (n.Sessions.length : Int) < n.Accounts.length then (n.Sessions.length : Int) else n.Accounts.length) - 1) = (if (n.Sessions.length : Int) < n.Accounts.length then (n.Sessions.length : Int) else n.Accounts.length) - 1 := by
    have := h.2.2.2.1.1; have := h.2.2.1.1; split <;> exact WR_in (by omega)
  simp only [sl34Account, sMin_eq, sl1In_eq, Option.bind_some, hw, hasA, inR_and]
omit h in
theorem hasD_ix {i : Int} (hd : hasD n i = true) : ∃ d s, d ∈ n.Devices ∧ s ∈ n.Sessions ∧ ix n.Devices i = some d ∧ ix n.Sessions i = some s := by
  simp only [hasD, Bool.and_eq_true, inR_iff] at hd
  obtain ⟨d, d1, d2⟩ := ix_in (xs := n.Devices) (i := i) (by omega) (by omega)
  obtain ⟨s, s1, s2⟩ := ix_in (xs := n.Sessions) (i := i) (by omega) (by omega)
  exact ⟨d, s, d1, s1, d2, s2⟩
omit h in
theorem hasA_ix {i : Int} (hd : hasA n i = true) : ∃ d s, d ∈ n.Accounts ∧ s ∈ n.Sessions ∧ ix n.Accounts i = some d ∧ ix n.Sessions i = some s := by
  simp only [hasA, Bool.and_eq_true, inR_iff] at hd
  obtain ⟨d, d1, d2⟩ := ix_in (xs := n.Accounts) (i := i) (by omega) (by omega)
  obtain ⟨s, s1, s2⟩ := ix_in (xs := n.Sessions) (i := i) (by omega) (by omega)
  exact ⟨d, s, d1, s1, d2, s2⟩
theorem charged_eq (i : Int) : ∃ r, iChargedBytes n i = some r ∧ sChargedBytes n i = some r := by
  simp only [iChargedBytes, sChargedBytes, ihasAccount_eq h, sAccount_eq h, Option.bind_some]
  cases hd : hasA n i with
  | false => exact ⟨_, rfl, rfl⟩
  | true => obtain ⟨d, s, _, _, e1, e2⟩ := hasA_ix hd; rw [e1, e2]; exact ⟨_, rfl, rfl⟩
end
theorem bytes_eq {s : TSession} (h : okTSession s) (n : Int) : ∃ r, iBytesOfFirst s n = some r ∧ sBytesOfFirst s n = some r := by
  have hl : s.Submitted.length ≤ 1048576 := h.2.1.1
  obtain ⟨m, hm, hmn⟩ : ∃ m : Nat, (if ((s.Submitted.length : Nat) : Int) < (if n < 0 then 0 else n) then ((s.Submitted.length : Nat) : Int) else (if n < 0 then 0 else n)) = (m : Int) ∧ m ≤ s.Submitted.length :=
    ⟨(if ((s.Submitted.length : Nat) : Int) < (if n < 0 then 0 else n) then ((s.Submitted.length : Nat) : Int) else (if n < 0 then 0 else n)).toNat, by split <;> split <;> omega, by split <;> split <;> omega⟩
  have hlt : (s.Submitted.take m).length = m := by simp; omega
  have hpay := iter_for (step := ipayloadBytes_L1 (s.Submitted.take m)) (s.Submitted.take m) (fun k (v : Int) => (v, (k : Int))) (fun v x => some (.next (WR (v + ((x.Data.length : Nat) : Int))))) some (by omega)
    (fun k x v hx hk => by simp only [ipayloadBytes_L1, ltB_lt hk, ix_nat, hx, WR_succ (show k < 9223372036854775807 by omega), cond_true, Option.bind_some, stepM_next]) (fun v => by simp [ipayloadBytes_L1]) 0
  have hspec := iter_for (step := sBytesOfFirst_L1 s n) (s.Submitted.take m) (fun k (v : Int) => (v, (k : Int))) (fun v x => some (.next (WR (v + ((x.Data.length : Nat) : Int))))) some (by omega)
    (fun k x v hx hk => by
      rw [hlt] at hk
      have hx' : s.Submitted[k]? = some x := by rw [List.getElem?_take, if_pos hk] at hx; exact hx
      have h1 : ltB (k : Int) n = true := by simp [ltB]; revert hm; split <;> split <;> omega
      have h2 : ltB (k : Int) ((s.Submitted.length : Nat) : Int) = true := ltB_lt (by omega)
      simp [sBytesOfFirst_L1, h1, h2, hx', WR_succ (show k < 9223372036854775807 by omega)]) (fun v => by
      rw [hlt]
      have : ltB (m : Int) ((s.Submitted.length : Nat) : Int) = false ∨ ltB (m : Int) n = false := by
        simp only [ltB, decide_eq_false_iff_not]; revert hm; split <;> split <;> omega
      rcases this with h1 | h1
      · simp [sBytesOfFirst_L1, h1]
      · simp only [sBytesOfFirst_L1, h1]; cases ltB (m : Int) ((s.Submitted.length : Nat) : Int) <;> rfl) 0
  have hsl : slOk s.Submitted 0 (m : Int) = true := by simp [slOk]; omega
  have htot : ∀ (xs : List TPayload) (v : Int), ∃ r, forL (fun (v : Int) (x : TPayload) => some (Step.next (WR (v + ((x.Data.length : Nat) : Int))))) some xs v = some (r : Int) := by
    intro xs
    induction xs with
    | nil => intro v; exact ⟨v, rfl⟩
    | cons x xs ih => intro v; rw [forL]; exact ih _
  obtain ⟨r, hr⟩ := htot (s.Submitted.take m) 0
  refine ⟨r, ?_, ?_⟩
  · simp only [iBytesOfFirst, iMax_eq, iMin_eq, Option.bind_some, hm, hsl, cond_true, Int.toNat_natCast, ipayloadBytes]
    rw [show iter (ipayloadBytes_L1 (s.Submitted.take m)) FU (0, 0) = _ from hpay, hr]; rfl
  · simp only [sBytesOfFirst]
    rw [show iter (sBytesOfFirst_L1 s n) FU (0, 0) = _ from hspec, hr]; rfl
theorem iEqualBytes_eq (a b : List Int) : iEqualBytes a b = some (strB (bsOf a) (bsOf b)) := rfl
def preP (a b : List TPayload) : Bool := leB ((a.length : Nat) : Int) ((b.length : Nat) : Int) && a.zipIdx.all (fun y => match b[y.2]? with | some z => strB (bsOf y.1.Data) (bsOf z.Data) | none => false)
theorem leB_not (a b : Int) : ltB a b = !leB b a := by
  by_cases h : a < b
  · rw [show ltB a b = true from by simp [ltB, h], show leB b a = false from by simp [leB]; omega]; rfl
  · rw [show ltB a b = false from by simp [ltB]; omega, show leB b a = true from by simp [leB]; omega]; rfl
theorem iIsPrefixOf_eq {a b : List TPayload} (ha : a.length ≤ 1048576) : iIsPrefixOf a b = some (preP a b) := by
  unfold iIsPrefixOf preP
  rw [leB_not]
  cases hl : leB ((a.length : Nat) : Int) ((b.length : Nat) : Int) with
  | false => rfl
  | true =>
    have hle : a.length ≤ b.length := by simpa [leB] using hl
    have := allK (L := iIsPrefixOf_L1 a b) a (fun k x => match b[k]? with | some z => strB (bsOf x.Data) (bsOf z.Data) | none => false) (some true) (by omega)
      (fun k x hx hk => by
        have hb : b[k]? = some b[k] := List.getElem?_eq_getElem (by omega)
        simp only [iIsPrefixOf_L1, ltB_lt hk, ix_nat, hx, hb, iEqualBytes_eq, WR_succ (show k < 9223372036854775807 by omega), Option.bind_some, cond_true]
        cases strB (bsOf x.Data) (bsOf b[k].Data) <;> rfl) (by simp [iIsPrefixOf_L1])
    rw [this]
    simp only [Bool.not_true, cond_false, Bool.true_and]
    cases a.zipIdx.all (fun y => match b[y.2]? with | some z => strB (bsOf y.1.Data) (bsOf z.Data) | none => false) <;> rfl
theorem sIsPrefixOf_eq {a b : List TPayload} (ha : a.length ≤ 1048576) : sIsPrefixOf a b = some (preP a b) := by
  unfold sIsPrefixOf preP
  cases hl : leB ((a.length : Nat) : Int) ((b.length : Nat) : Int) with
  | false => rfl
  | true =>
    have hle : a.length ≤ b.length := by simpa [leB] using hl
    have hsl : slOk b 0 ((a.length : Nat) : Int) = true := by simp [slOk]; omega
    have := allK (L := sl15Same_L1 a (b.take a.length)) a (fun k x => match b[k]? with | some z => strB (bsOf x.Data) (bsOf z.Data) | none => false) (some true) (by omega)
      (fun k x hx hk => by
        have hb : b[k]? = some b[k] := List.getElem?_eq_getElem (by omega)
        have hb' : (b.take a.length)[k]? = some b[k] := by rw [List.getElem?_take, if_pos hk, hb]
        simp only [sl15Same_L1, ltB_lt hk, ix_nat, hx, hb, hb', sEqualBytes, WR_succ (show k < 9223372036854775807 by omega), Option.bind_some, cond_true]
        cases strB (bsOf x.Data) (bsOf b[k].Data) <;> rfl) (by simp [sl15Same_L1])
    have he : eqB ((a.length : Nat) : Int) (((b.take a.length).length : Nat) : Int) = true := by simp [eqB]; omega
    simp only [hsl, cond_true, Int.toNat_natCast, sl15Same, he, Bool.not_true, cond_false, this, Bool.true_and]
    cases a.zipIdx.all (fun y => match b[y.2]? with | some z => strB (bsOf y.1.Data) (bsOf z.Data) | none => false) <;> rfl
theorem dio_eq {n : TNetwork} (h : okTNetwork n) (i : Int) : ∃ r, iDeliveredInOrder n i = some r ∧ sDeliveredInOrder n i = some r := by
  simp only [iDeliveredInOrder, sDeliveredInOrder, ihasDevice_eq h, sHas_eq h, Option.bind_some]
  cases hd : hasD n i with
  | false => exact ⟨_, rfl, rfl⟩
  | true =>
    obtain ⟨d, s, d1, _, e1, e2⟩ := hasD_ix hd
    have hdl : d.Receiver.Delivered.length ≤ 1048576 := (h.2.1.2 d d1).2.1
    simp only [e1, e2, iIsPrefixOf_eq hdl, sIsPrefixOf_eq hdl, cond_true, Option.bind_some]
    exact ⟨_, rfl, rfl⟩
theorem ceo_eq {n : TNetwork} (h : okTNetwork n) (i : Int) : ∃ r, iChargedExactlyOnce n i = some r ∧ sChargedExactlyOnce n i = some r := by
  obtain ⟨c, c1, c2⟩ := charged_eq h i
  simp only [iChargedExactlyOnce, sChargedExactlyOnce, ihasAccount_eq h, sAccount_eq h, iAcknowledgedPackets, sAcknowledgedPackets, c1, c2, Option.bind_some]
  cases hd : hasA n i with
  | false => exact ⟨_, rfl, rfl⟩
  | true =>
    obtain ⟨d, s, _, s1, e1, e2⟩ := hasA_ix hd
    obtain ⟨b, b1, b2⟩ := bytes_eq (h.2.2.1.2 s s1) (WR ((WR (s.Window.Next - 1)) - ((s.Window.Unacked.length : Nat) : Int)))
    simp only [e2, b1, b2, cond_true, cond_false, Bool.not_true, Option.bind_some]
    exact ⟨_, rfl, rfl⟩
theorem quota_eq (q : TQuota) : ∃ r, iRemainingQuota q = some r ∧ sRemainingQuota q = some r := by
  have hv : ∃ v, iIsValidQuota q = some v ∧ sIsValidQuota q = some v := by
    simp only [iIsValidQuota, sIsValidQuota, sl1In_eq, Option.bind_some]
    refine ⟨leB 0 q.SessionID && (leB 0 q.Used && (leB q.Used q.Granted && leB q.Granted 100000)), ?_, ?_⟩
    · cases leB 0 q.SessionID <;> cases leB 0 q.Used <;> cases leB q.Used q.Granted <;> cases leB q.Granted 100000 <;> rfl
    · have : (inR q.Granted 0 100000 && inR q.Used 0 q.Granted) = (leB 0 q.Used && (leB q.Used q.Granted && leB q.Granted 100000)) := by rw [Bool.eq_iff_iff]; simp [inR, leB]; omega
      rw [← this]
      cases leB 0 q.SessionID <;> cases inR q.Granted 0 100000 <;> cases inR q.Used 0 q.Granted <;> rfl
  obtain ⟨v, h1, h2⟩ := hv
  simp only [iRemainingQuota, sRemainingQuota, h1, h2, Option.bind_some]
  cases v <;> exact ⟨_, rfl, rfl⟩
theorem all_bytes {s : TSession} (h : okTSession s) : iBytesOfFirst s ((s.Submitted.length : Nat) : Int) = ipayloadBytes s.Submitted := by
  have hl : s.Submitted.length ≤ 1048576 := h.2.1.1
  have h1 : (if ((s.Submitted.length : Nat) : Int) < 0 then (0 : Int) else ((s.Submitted.length : Nat) : Int)) = ((s.Submitted.length : Nat) : Int) := if_neg (by omega)
  have h2 : (if ((s.Submitted.length : Nat) : Int) < ((s.Submitted.length : Nat) : Int) then ((s.Submitted.length : Nat) : Int) else ((s.Submitted.length : Nat) : Int)) = ((s.Submitted.length : Nat) : Int) := if_neg (by omega)
  have hsl : slOk s.Submitted 0 ((s.Submitted.length : Nat) : Int) = true := by simp [slOk]
  simp only [iBytesOfFirst, iMax_eq, iMin_eq, Option.bind_some, h1, h2, hsl, cond_true, Int.toNat_natCast, List.take_length]
  cases ipayloadBytes s.Submitted <;> rfl
theorem afford_eq {n : TNetwork} (h : okTNetwork n) (i : Int) : ∃ r, iCanAfford n i = some r ∧ sCanAfford n i = some r := by
  obtain ⟨c, c1, c2⟩ := charged_eq h i
  simp only [iCanAfford, sCanAfford, ihasAccount_eq h, sAccount_eq h, c1, c2, Option.bind_some]
  cases hd : hasA n i with
  | false => exact ⟨_, rfl, rfl⟩
  | true =>
    obtain ⟨d, s, _, s1, e1, e2⟩ := hasA_ix hd
    obtain ⟨b, b1, b2⟩ := bytes_eq (h.2.2.1.2 s s1) ((s.Submitted.length : Nat) : Int)
    rw [all_bytes (h.2.2.1.2 s s1)] at b1
    obtain ⟨q, q1, q2⟩ := quota_eq s.Usage
    simp only [e1, e2, b1, b2, q1, q2, cond_false, Bool.not_true, Option.bind_some]
    exact ⟨_, rfl, rfl⟩
theorem lFnExactDeliveredInOrder_ok (a : TNetwork) (hp : preTNetwork a) (n : Int) (hn : (Lit.int .i64 n).wf = true) : lFnExactDeliveredInOrder a n = some true := by
  unfold lFnExactDeliveredInOrder
  obtain ⟨r1, a1, b1, c1⟩ := psz_Network a 1048576 hp (by omega) (by omega)
  rcases c1 with ⟨c1, rfl⟩ | ⟨c1, d1, e1⟩
  · simp [a1, c1]
  obtain ⟨r, h1, h2⟩ := dio_eq e1 n
  simp only [a1, c1, pto_Network a e1, h1, h2, booB_refl, peq_Network a e1, Option.bind_some, cond_false, Bool.not_true]
theorem lFnExactChargedExactlyOnce_ok (a : TNetwork) (hp : preTNetwork a) (n : Int) (hn : (Lit.int .i64 n).wf = true) : lFnExactChargedExactlyOnce a n = some true := by
  unfold lFnExactChargedExactlyOnce
  obtain ⟨r1, a1, b1, c1⟩ := psz_Network a 1048576 hp (by omega) (by omega)
  rcases c1 with ⟨c1, rfl⟩ | ⟨c1, d1, e1⟩
  · simp [a1, c1]
  obtain ⟨r, h1, h2⟩ := ceo_eq e1 n
  simp only [a1, c1, pto_Network a e1, h1, h2, booB_refl, peq_Network a e1, Option.bind_some, cond_false, Bool.not_true]
theorem lFnExactCanAfford_ok (a : TNetwork) (hp : preTNetwork a) (n : Int) (hn : (Lit.int .i64 n).wf = true) : lFnExactCanAfford a n = some true := by
  unfold lFnExactCanAfford
  obtain ⟨r1, a1, b1, c1⟩ := psz_Network a 1048576 hp (by omega) (by omega)
  rcases c1 with ⟨c1, rfl⟩ | ⟨c1, d1, e1⟩
  · simp [a1, c1]
  obtain ⟨r, h1, h2⟩ := afford_eq e1 n
  simp only [a1, c1, pto_Network a e1, h1, h2, booB_refl, peq_Network a e1, Option.bind_some, cond_false, Bool.not_true]
theorem fnExactDeliveredInOrder_fn (x0 : List D) (h0 : WTs [.l [.i .i64, .l [.i .i64]], .l [.i .i64, .i .i64, .i .i64, .i .i64, .i .i64, .i .i64, .i .i64, .i .i64, .i .i64, .b, .i .i64, .i .i64, .l [.i .i64, .l [.i .u8]], .l [.l [.i .u8]]], .l [.i .i64, .i .i64, .i .i64, .i .i64, .i .i64, .i .i64, .i .i64, .l [.i .i64], .i .i64, .i .i64, .i .i64, .i .i64, .i .i64, .i .i64, .i .i64, .i .i64, .i .i64, .i .i64, .i .i64, .i .i64, .i .i64, .i .i64, .i .i64, .l [.l [.i .u8]], .i .i64, .l [.i .i64, .l [.i .u8]], .i .i64, .i .i64, .i .i64, .i .i64], .l [.i .i64, .i .i64, .i .i64, .l [.i .i64, .i .i64]], .l [.i .i64, .b, .b, .i .i64, .i .i64, .i .i64, .i .i64, .i .i64, .i .i64, .i .i64, .i .i64, .i .i64, .i .i64, .i .i64, .i .i64, .i .i64, .i .i64, .i .i64, .i .i64, .l [.i .u8], .i .i64], .i .i64, .i .i64, .i .i64, .i .i64, .i .i64] x0) (x1 : D) (h1 : WT (.i .i64) x1) : Fn Tryz.prog 3 [.agg x0, .c x1] [rB true] := by
  obtain ⟨a0, rfl, p0⟩ := wtTNetwork h0
  obtain ⟨a1, rfl, w1⟩ := h1.gi
  exact lFnExactDeliveredInOrder_c (lFnExactDeliveredInOrder_ok a0 p0 a1 w1)
theorem fnExactChargedExactlyOnce_fn (x0 : List D) (h0 : WTs [.l [.i .i64, .l [.i .i64]], .l [.i .i64, .i .i64, .i .i64, .i .i64, .i .i64, .i .i64, .i .i64, .i .i64, .i .i64, .b, .i .i64, .i .i64, .l [.i .i64, .l [.i .u8]], .l [.l [.i .u8]]], .l [.i .i64, .i .i64, .i .i64, .i .i64, .i .i64, .i .i64, .i .i64, .l [.i .i64], .i .i64, .i .i64, .i .i64, .i .i64, .i .i64, .i .i64, .i .i64, .i .i64, .i .i64, .i .i64, .i .i64, .i .i64, .i .i64, .i .i64, .i .i64, .l [.l [.i .u8]], .i .i64, .l [.i .i64, .l [.i .u8]], .i .i64, .i .i64, .i .i64, .i .i64], .l [.i .i64, .i .i64, .i .i64, .l [.i .i64, .i .i64]], .l [.i .i64, .b, .b, .i .i64, .i .i64, .i .i64, .i .i64, .i .i64, .i .i64, .i .i64, .i .i64, .i .i64, .i .i64, .i .i64, .i .i64, .i .i64, .i .i64, .i .i64, .i .i64, .l [.i .u8], .i .i64], .i .i64, .i .i64, .i .i64, .i .i64, .i .i64] x0) (x1 : D) (h1 : WT (.i .i64) x1) : Fn Tryz.prog 4 [.agg x0, .c x1] [rB true] := by
  obtain ⟨a0, rfl, p0⟩ := wtTNetwork h0
  obtain ⟨a1, rfl, w1⟩ := h1.gi
  exact lFnExactChargedExactlyOnce_c (lFnExactChargedExactlyOnce_ok a0 p0 a1 w1)
theorem fnExactCanAfford_fn (x0 : List D) (h0 : WTs [.l [.i .i64, .l [.i .i64]], .l [.i .i64, .i .i64, .i .i64, .i .i64, .i .i64, .i .i64, .i .i64, .i .i64, .i .i64, .b, .i .i64, .i .i64, .l [.i .i64, .l [.i .u8]], .l [.l [.i .u8]]], .l [.i .i64, .i .i64, .i .i64, .i .i64, .i .i64, .i .i64, .i .i64, .l [.i .i64], .i .i64, .i .i64, .i .i64, .i .i64, .i .i64, .i .i64, .i .i64, .i .i64, .i .i64, .i .i64, .i .i64, .i .i64, .i .i64, .i .i64, .i .i64, .l [.l [.i .u8]], .i .i64, .l [.i .i64, .l [.i .u8]], .i .i64, .i .i64, .i .i64, .i .i64], .l [.i .i64, .i .i64, .i .i64, .l [.i .i64, .i .i64]], .l [.i .i64, .b, .b, .i .i64, .i .i64, .i .i64, .i .i64, .i .i64, .i .i64, .i .i64, .i .i64, .i .i64, .i .i64, .i .i64, .i .i64, .i .i64, .i .i64, .i .i64, .i .i64, .l [.i .u8], .i .i64], .i .i64, .i .i64, .i .i64, .i .i64, .i .i64] x0) (x1 : D) (h1 : WT (.i .i64) x1) : Fn Tryz.prog 5 [.agg x0, .c x1] [rB true] := by
  obtain ⟨a0, rfl, p0⟩ := wtTNetwork h0
  obtain ⟨a1, rfl, w1⟩ := h1.gi
  exact lFnExactCanAfford_c (lFnExactCanAfford_ok a0 p0 a1 w1)
end Go.AM
