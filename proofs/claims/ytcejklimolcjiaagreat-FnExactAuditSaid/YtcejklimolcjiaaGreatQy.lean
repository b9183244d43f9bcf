/-
  Own text: a part of the abstract machine for this seat (Qy). No statement is proved here.
-/
import Derived.Test.YtcejklimolcjiaaGreatHel
import Derived.Test.YtcejklimolcjiaaGreatQx
set_option linter.unusedVariables false
set_option linter.unusedSimpArgs false
namespace Go.AM
open Go.Proofs
attribute [local simp] ltB_self eqB_refl ix_nat
theorem iInRange_eq (n a b : Int) : iInRange n a b = some (inR n a b) := by unfold iInRange inR; cases leB a n <;> rfl
theorem sl1In_eq (n a b : Int) : sl1In n a b = some (inR n a b) := by unfold sl1In inR; cases leB a n <;> rfl
theorem sMin_eq (a b : Int) : sMin a b = some (if b < a then b else a) := by
  unfold sMin ltB; by_cases h : b < a <;> simp [h]
theorem iMin_eq (a b : Int) : iMin a b = some (if b < a then b else a) := by
  unfold iMin ltB; by_cases h : b < a <;> simp [h]
theorem iMax_eq (a b : Int) : iMax a b = some (if a < b then b else a) := by
  unfold iMax ltB; by_cases h : a < b <;> simp [h]
def hasD (n : TNetwork) (i : Int) : Bool := inR i 0 ((n.Devices.length : Int) - 1) && inR i 0 ((n.Sessions.length : Int) - 1)
def hasA (n : TNetwork) (i : Int) : Bool := inR i 0 ((n.Accounts.length : Int) - 1) && inR i 0 ((n.Sessions.length : Int) - 1)
section
variable {n : TNetwork} (h : okTNetwork n)
include h
theorem ihasDevice_eq (i : Int) : ihasDevice n i = some (hasD n i) := by
  simp only [ihasDevice, iInRange_eq, WR_pred h.2.1.1, WR_pred h.2.2.1.1, Option.bind_some, hasD]
  cases inR i 0 ((n.Devices.length : Int) - 1) <;> rfl
theorem sHas_eq (i : Int) : sl34Has n i = some (hasD n i) := by
  have hw : WR ((if (n.Sessions.length : Int) < n.Devices.length then (n.Sessions.length : Int) else n.Devices.length) - 1) = (if (n.Sessions.length : Int) < n.Devices.length then (n.Sessions.length : Int) else n.Devices.length) - 1 := by
    have := h.2.1.1; have := h.2.2.1.1; split <;> exact WR_in (by omega)
  simp only [sl34Has, sMin_eq, sl1In_eq, Option.bind_some, hw, hasD, inR_and]
theorem ihasAccount_eq (i : Int) : ihasAccount n i = some (hasA n i) := by
  simp only [ihasAccount, iInRange_eq, WR_pred h.2.2.2.1.1, WR_pred h.2.2.1.1, Option.bind_some, hasA]
  cases inR i 0 ((n.Accounts.length : Int) - 1) <;> rfl
theorem sAccount_eq (i : Int) : sl34Account n i = some (hasA n i) := by
  have hw : WR ((if (n.Sessions.length : Int) < n.Accounts.length then (n.Sessions.length : Int) else n.Accounts.length) - 1) = (if (n.Sessions.length : Int) < n.Accounts.length then (n.Sessions.length : Int) else n.Accounts.length) - 1 := by
    have := h.2.2.2.1.1; have := h.2.2.1.1; split <;> exact WR_in (by omega)
  simp only [sl34Account, sMin_eq, sl1In_eq, Option.bind_some, hw, hasA, inR_and]
omit h in
theorem hasD_ix {i : Int} (hd : hasD n i = true) : ∃ d s, d ∈ n.Devices ∧ s ∈ n.Sessions ∧ ix n.Devices i = some d ∧ ix n.Sessions i = some s := by
  simp only [hasD, Bool.and_eq_true, inR_iff] at hd
  obtain ⟨d, d1, d2⟩ := ix_in (xs := n.Devices) (i := i) (by omega) (by omega)
  obtain ⟨s, s1, s2⟩ := ix_in (xs := n.Sessions) (i := i) (by omega) (by omega)
  exact ⟨d, s, d1, s1, d2, s2⟩
omit h in
theorem hasA_ix {i : Int} (hd : hasA n i = true) : ∃ d s, d ∈ n.Accounts ∧ s ∈ n.Sessions ∧ ix n.Accounts i = some d ∧ ix n.Sessions i = some s := by
  simp only [hasA, Bool.and_eq_true, inR_iff] at hd
  obtain ⟨d, d1, d2⟩ := ix_in (xs := n.Accounts) (i := i) (by omega) (by omega)
  obtain ⟨s, s1, s2⟩ := ix_in (xs := n.Sessions) (i := i) (by omega) (by omega)
  exact ⟨d, s, d1, s1, d2, s2⟩
theorem charged_eq (i : Int) : ∃ r, iChargedBytes n i = some r ∧ sChargedBytes n i = some r := by
  simp only [iChargedBytes, sChargedBytes, ihasAccount_eq h, sAccount_eq h, Option.bind_some]
  cases hd : hasA n i with
  | false => exact ⟨_, rfl, rfl⟩
  | true => obtain ⟨d, s, _, _, e1, e2⟩ := hasA_ix hd; rw [e1, e2]; exact ⟨_, rfl, rfl⟩
theorem awd_eq (i : Int) : ∃ r, iAcknowledgedWereDelivered n i = some r ∧ sAcknowledgedWereDelivered n i = some r := by
  simp only [iAcknowledgedWereDelivered, sAcknowledgedWereDelivered, ihasDevice_eq h, sHas_eq h, iAcknowledgedPackets, sAcknowledgedPackets, Option.bind_some]
  cases hd : hasD n i with
  | false => exact ⟨_, rfl, rfl⟩
  | true => obtain ⟨d, s, _, _, e1, e2⟩ := hasD_ix hd; rw [e1, e2]; exact ⟨_, rfl, rfl⟩
end
theorem bytes_eq {s : TSession} (h : okTSession s) (n : Int) : ∃ r, iBytesOfFirst s n = some r ∧ sBytesOfFirst s n = some r := by
  have hl : s.Submitted.length ≤ 1048576 := h.2.1.1
  obtain ⟨m, hm, hmn⟩ : ∃ m : Nat, (if ((s.Submitted.length : Nat) : Int) < (if n < 0 then 0 else n) then ((s.Submitted.length : Nat) : Int) else (if n < 0 then 0 else n)) = (m : Int) ∧ m ≤ s.Submitted.length :=
    ⟨(if ((s.Submitted.length : Nat) : Int) < (if n < 0 then 0 else n) then ((s.Submitted.length : Nat) : Int) else (if n < 0 then 0 else n)).toNat, by split <;> split <;> omega, by split <;> split <;> omega⟩
  have hlt : (s.Submitted.take m).length = m := by simp; omega
  have hpay := iter_for (step := ipayloadBytes_L1 (s.Submitted.take m)) (s.Submitted.take m) (fun k (v : Int) => (v, (k : Int))) (fun v x => some (.next (WR (v + ((x.Data.length : Nat) : Int))))) some (by omega)
    (fun k x v hx hk => by simp only [ipayloadBytes_L1, ltB_lt hk, ix_nat, hx, WR_succ (show k < 9223372036854775807 by omega), cond_true, Option.bind_some, stepM_next]) (fun v => by simp [ipayloadBytes_L1]) 0
  have hspec := iter_for (step := sBytesOfFirst_L1 s n) (s.Submitted.take m) (fun k (v : Int) => (v, (k : Int))) (fun v x => some (.next (WR (v + ((x.Data.length : Nat) : Int))))) some (by omega)
    (fun k x v hx hk => by
      rw [hlt] at hk
      have hx' : s.Submitted[k]? = some x := by rw [List.getElem?_take, if_pos hk] at hx; exact hx
      have h1 : ltB (k : Int) n = true := by simp [ltB]; revert hm; split <;> split <;> omega
      have h2 : ltB (k : Int) ((s.Submitted.length : Nat) : Int) = true := ltB_lt (by omega)
      simp [sBytesOfFirst_L1, h1, h2, hx', WR_succ (show k < 9223372036854775807 by omega)]) (fun v => by
      rw [hlt]
      have : ltB (m : Int) ((s.Submitted.length : Nat) : Int) = false ∨ ltB (m : Int) n = false := by
        simp only [ltB, decide_eq_false_iff_not]; revert hm; split <;> split <;> omega
      rcases this with h1 | h1
      · simp [sBytesOfFirst_L1, h1]
      · simp only [sBytesOfFirst_L1, h1]; cases ltB (m : Int) ((s.Submitted.length : Nat) : Int) <;> rfl) 0
  have hsl : slOk s.Submitted 0 (m : Int) = true := by simp [slOk]; omega
  have htot : ∀ (xs : List TPayload) (v : Int), ∃ r, forL (fun (v : Int) (x : TPayload) => some (Step.next (WR (v + ((x.Data.length : Nat) : Int))))) some xs v = some (r : Int) := by
    intro xs
    induction xs with
    | nil => intro v; exact ⟨v, rfl⟩
    | cons x xs ih => intro v; rw [forL]; exact ih _
  obtain ⟨r, hr⟩ := htot (s.Submitted.take m) 0
  refine ⟨r, ?_, ?_⟩
  · simp only [iBytesOfFirst, iMax_eq, iMin_eq, Option.bind_some, hm, hsl, cond_true, Int.toNat_natCast, ipayloadBytes]
    rw [show iter (ipayloadBytes_L1 (s.Submitted.take m)) FU (0, 0) = _ from hpay, hr]; rfl
  · simp only [sBytesOfFirst]
    rw [show iter (sBytesOfFirst_L1 s n) FU (0, 0) = _ from hspec, hr]; rfl
theorem iEqualBytes_eq (a b : List Int) : iEqualBytes a b = some (strB (bsOf a) (bsOf b)) := rfl
def preP (a b : List TPayload) : Bool := leB ((a.length : Nat) : Int) ((b.length : Nat) : Int) && a.zipIdx.all (fun y => match b[y.2]? with | some z => strB (bsOf y.1.Data) (bsOf z.Data) | none => false)
theorem leB_not (a b : Int) : ltB a b = !leB b a := by
  by_cases h : a < b
  · rw [show ltB a b = true from by simp [ltB, h], show leB b a = false from by simp [leB]; omega]; rfl
  · rw [show ltB a b = false from by simp [ltB]; omega, show leB b a = true from by simp [leB]; omega]; rfl
theorem iIsPrefixOf_eq {a b : List TPayload} (ha : a.length ≤ 1048576) : iIsPrefixOf a b = some (preP a b) := by
  unfold iIsPrefixOf preP
  rw [leB_not]
  cases hl : leB ((a.length : Nat) : Int) ((b.length : Nat) : Int) with
  | false => rfl
  | true =>
    have hle : a.length ≤ b.length := by simpa [leB] using hl
    have := allK (L := iIsPrefixOf_L1 a b) a (fun k x => match b[k]? with | some z => strB (bsOf x.Data) (bsOf z.Data) | none => false) (some true) (by omega)
      (fun k x hx hk => by
        have hb : b[k]? = some b[k] := List.getElem?_eq_getElem (by omega)
        simp only [iIsPrefixOf_L1, ltB_lt hk, ix_nat, hx, hb, iEqualBytes_eq, WR_succ (show k < 9223372036854775807 by omega), Option.bind_some, cond_true]
        cases strB (bsOf x.Data) (bsOf b[k].Data) <;> rfl) (by simp [iIsPrefixOf_L1])
    rw [this]
    simp only [Bool.not_true, cond_false, Bool.true_and]
    cases a.zipIdx.all (fun y => match b[y.2]? with | some z => strB (bsOf y.1.Data) (bsOf z.Data) | none => false) <;> rfl
theorem sIsPrefixOf_eq {a b : List TPayload} (ha : a.length ≤ 1048576) : sIsPrefixOf a b = some (preP a b) := by
  unfold sIsPrefixOf preP
  cases hl : leB ((a.length : Nat) : Int) ((b.length : Nat) : Int) with
  | false => rfl
  | true =>
    have hle : a.length ≤ b.length := by simpa [leB] using hl
    have hsl : slOk b 0 ((a.length : Nat) : Int) = true := by simp [slOk]; omega
    have := allK (L := sl15Same_L1 a (b.take a.length)) a (fun k x => match b[k]? with | some z => strB (bsOf x.Data) (bsOf z.Data) | none => false) (some true) (by omega)
      (fun k x hx hk => by
        have hb : b[k]? = some b[k] := List.getElem?_eq_getElem (by omega)
        have hb' : (b.take a.length)[k]? = some b[k] := by rw [List.getElem?_take, if_pos hk, hb]
        simp only [sl15Same_L1, ltB_lt hk, ix_nat, hx, hb, hb', sEqualBytes, WR_succ (show k < 9223372036854775807 by omega), Option.bind_some, cond_true]
        cases strB (bsOf x.Data) (bsOf b[k].Data) <;> rfl) (by simp [sl15Same_L1])
    have he : eqB ((a.length : Nat) : Int) (((b.take a.length).length : Nat) : Int) = true := by simp [eqB]; omega
    simp only [hsl, cond_true, Int.toNat_natCast, sl15Same, he, Bool.not_true, cond_false, this, Bool.true_and]
    cases a.zipIdx.all (fun y => match b[y.2]? with | some z => strB (bsOf y.1.Data) (bsOf z.Data) | none => false) <;> rfl
theorem dio_eq {n : TNetwork} (h : okTNetwork n) (i : Int) : ∃ r, iDeliveredInOrder n i = some r ∧ sDeliveredInOrder n i = some r := by
  simp only [iDeliveredInOrder, sDeliveredInOrder, ihasDevice_eq h, sHas_eq h, Option.bind_some]
  cases hd : hasD n i with
  | false => exact ⟨_, rfl, rfl⟩
  | true =>
    obtain ⟨d, s, d1, _, e1, e2⟩ := hasD_ix hd
    have hdl : d.Receiver.Delivered.length ≤ 1048576 := (h.2.1.2 d d1).2.1
    simp only [e1, e2, iIsPrefixOf_eq hdl, sIsPrefixOf_eq hdl, cond_true, Option.bind_some]
    exact ⟨_, rfl, rfl⟩
theorem ceo_eq {n : TNetwork} (h : okTNetwork n) (i : Int) : ∃ r, iChargedExactlyOnce n i = some r ∧ sChargedExactlyOnce n i = some r := by
  obtain ⟨c, c1, c2⟩ := charged_eq h i
  simp only [iChargedExactlyOnce, sChargedExactlyOnce, ihasAccount_eq h, sAccount_eq h, iAcknowledgedPackets, sAcknowledgedPackets, c1, c2, Option.bind_some]
  cases hd : hasA n i with
  | false => exact ⟨_, rfl, rfl⟩
  | true =>
    obtain ⟨d, s, _, s1, e1, e2⟩ := hasA_ix hd
    obtain ⟨b, b1, b2⟩ := bytes_eq (h.2.2.1.2 s s1) (WR ((WR (s.Window.Next - 1)) - ((s.Window.Unacked.length : Nat) : Int)))
    simp only [e2, b1, b2, cond_true, cond_false, Bool.not_true, Option.bind_some]
    exact ⟨_, rfl, rfl⟩

/-! the whole network -/
def idsB (d : TDevice) (s : TSession) : Bool := (eqB d.Card.ID.Network s.Record.ID.Network && (eqB d.Card.ID.Number s.Record.ID.Number && true)) && eqB d.Card.Key s.Record.Key
def memB (n : TNetwork) (i : Nat) (d : TDevice) : Bool := match n.Sessions[i]?, n.Accounts[i]? with
  | some s, some a => vDevice d && (vSession s && (vAccount a && (idsB d s && (cellB n.Map d.Cell && (cellB n.Map s.Cell && (eqB s.Usage.SessionID (i : Int) && vMatch a s.Usage))))))
  | _, _ => false
def flB (n : TNetwork) (f : TFlight) : Bool := inR f.Device 0 (((n.Devices.length : Nat) : Int) - 1) && cellB n.Map f.Cell
def endB (n : TNetwork) : Bool := inR n.DownCells 0 (WR ((bShl .i64 1 ((n.Map.Cells.length : Nat) : Int)) - 1)) && (inR n.Now 0 100000 && leB 0 n.Lost)
def vNetwork (n : TNetwork) : Bool := vMap n.Map && (vPool n.Core && (!eqB n.Core.UpMask 0 && (leB ((n.Devices.length : Nat) : Int) 4 && (eqB ((n.Sessions.length : Nat) : Int) ((n.Devices.length : Nat) : Int) && (eqB ((n.Accounts.length : Nat) : Int) ((n.Devices.length : Nat) : Int) &&
  (allI (memB n) n.Devices && (leB ((n.Flights.length : Nat) : Int) 200 && (n.Flights.all (flB n) && endB n))))))))
theorem cell_lt {m : TCellMap} {x : Int} {b : Int} (h : inR x 0 b = true) : cellB m x = ltB x ((m.Cells.length : Nat) : Int) := by
  rw [inR_iff] at h
  rw [Bool.eq_iff_iff]; simp [cellB, inR, leB, ltB]; omega
theorem flt_i {n : TNetwork} (h : okTNetwork n) : iter (iIsValidNetwork_L2 n) FU 0 = some (n.Flights.all (flB n) && endB n) := by
  have hl := h.2.2.2.2.1
  have := allI_rule (L := iIsValidNetwork_L2 n) n.Flights (fun _ f => flB n f) (some (endB n)) (by omega) (fun k x hx hk => by
    simp only [iIsValidNetwork_L2, ltB_lt hk, ix_nat, hx, WR_succ (show k < 9223372036854775807 by omega), inr_i, WR_pred h.2.1.1, cell_i h.1.1, Option.bind_some, cond_true, flB]
    cases inR x.Device 0 (((n.Devices.length : Nat) : Int) - 1) <;> cases cellB n.Map x.Cell <;> rfl) (by
    simp only [iIsValidNetwork_L2, ltB_self, cond_false, inr_i, Option.bind_some, endB, show leB 0 ((n.Map.Cells.length : Nat) : Int) = true from by simp [leB], cond_true]
    cases inR n.DownCells 0 (WR ((bShl .i64 1 ((n.Map.Cells.length : Nat) : Int)) - 1)) <;> cases inR n.Now 0 100000 <;> rfl)
  rw [this, allI_all]
  cases n.Flights.all (flB n) <;> rfl
theorem flt_s {n : TNetwork} (h : okTNetwork n) : iter (sIsValidNetwork_L2 n) FU 0 = some (n.Flights.all (flB n) && endB n) := by
  have hl := h.2.2.2.2.1
  have := allI_rule (L := sIsValidNetwork_L2 n) n.Flights (fun _ f => flB n f) (some (endB n)) (by omega) (fun k x hx hk => by
    simp only [sIsValidNetwork_L2, ltB_lt hk, ix_nat, hx, WR_succ (show k < 9223372036854775807 by omega), inr_s, WR_pred h.2.1.1, WR_pred h.1.1, Option.bind_some, cond_true, flB, cellB]
    cases inR x.Device 0 (((n.Devices.length : Nat) : Int) - 1) <;> cases inR x.Cell 0 (((n.Map.Cells.length : Nat) : Int) - 1) <;> rfl) (by
    simp only [sIsValidNetwork_L2, ltB_self, cond_false, inr_s, Option.bind_some, endB, show leB 0 ((n.Map.Cells.length : Nat) : Int) = true from by simp [leB], cond_true]
    cases inR n.DownCells 0 (WR ((bShl .i64 1 ((n.Map.Cells.length : Nat) : Int)) - 1)) <;> cases inR n.Now 0 100000 <;> rfl)
  rw [this, allI_all]
  cases n.Flights.all (flB n) <;> rfl
section
variable {n : TNetwork} (h : okTNetwork n) (e1 : n.Sessions.length = n.Devices.length) (e2 : n.Accounts.length = n.Devices.length)
include h e1 e2
omit h in
theorem at_i {k : Nat} (hk : k < n.Devices.length) : ∃ s a, s ∈ n.Sessions ∧ a ∈ n.Accounts ∧ n.Sessions[k]? = some s ∧ n.Accounts[k]? = some a :=
  ⟨n.Sessions[k]'(by omega), n.Accounts[k]'(by omega), List.getElem_mem _, List.getElem_mem _, List.getElem?_eq_getElem _, List.getElem?_eq_getElem _⟩
theorem mem_i {k : Nat} {d : TDevice} (hd : n.Devices[k]? = some d) : iisValidSubscriber n (k : Int) = some (memB n k d) := by
  have hk := (List.getElem?_eq_some_iff.1 hd).1
  obtain ⟨s, a, s1, a1, s2, a2⟩ := at_i e1 e2 hk
  have od := h.2.1.2 d (List.mem_of_getElem? hd)
  have os := h.2.2.1.2 s s1
  have oa := h.2.2.2.1.2 a a1
  simp only [iisValidSubscriber, ix_nat, hd, s2, a2, device_i od.2.1 od.1.1, session_i os, account_i oa, cell_i h.1.1, match_i oa, Option.bind_some, memB, idsB]
  cases vDevice d <;> cases vSession s <;> cases vAccount a <;> try rfl
  cases (eqB d.Card.ID.Network s.Record.ID.Network && (eqB d.Card.ID.Number s.Record.ID.Number && true)) <;> cases eqB d.Card.Key s.Record.Key <;> try rfl
  cases cellB n.Map d.Cell <;> cases cellB n.Map s.Cell <;> cases eqB s.Usage.SessionID (k : Int) <;> rfl
theorem mem_s {k : Nat} {d : TDevice} (hd : n.Devices[k]? = some d) : sl32Member n (k : Int) = some (memB n k d) := by
  have hk := (List.getElem?_eq_some_iff.1 hd).1
  obtain ⟨s, a, s1, a1, s2, a2⟩ := at_i e1 e2 hk
  have od := h.2.1.2 d (List.mem_of_getElem? hd)
  have os := h.2.2.1.2 s s1
  have oa := h.2.2.2.1.2 a a1
  simp only [sl32Member, ix_nat, hd, s2, a2, device_s od.2.1 od.1.1, session_s os, account_s oa, match_s oa, Option.bind_some, memB, idsB]
  cases hv : vDevice d
  · rfl
  cases hs : vSession s
  · rfl
  have c1 : cellB n.Map d.Cell = ltB d.Cell ((n.Map.Cells.length : Nat) : Int) := by
    simp only [vDevice, Bool.and_eq_true] at hv; exact cell_lt hv.2.2.1
  have c2 : cellB n.Map s.Cell = ltB s.Cell ((n.Map.Cells.length : Nat) : Int) := by
    simp only [vSession, Bool.and_eq_true] at hs; exact cell_lt hs.2.2.2.2.2.2.2.2.2.2.2.1
  rw [c1, c2]
  cases vAccount a <;> cases (eqB d.Card.ID.Network s.Record.ID.Network && (eqB d.Card.ID.Number s.Record.ID.Number && true)) <;> cases eqB d.Card.Key s.Record.Key <;> try rfl
  cases ltB d.Cell ((n.Map.Cells.length : Nat) : Int) <;> cases ltB s.Cell ((n.Map.Cells.length : Nat) : Int) <;> cases eqB s.Usage.SessionID (k : Int) <;> rfl
theorem mems_i : iter (iIsValidNetwork_L1 n) FU 0 = some (allI (memB n) n.Devices && (leB ((n.Flights.length : Nat) : Int) 200 && (n.Flights.all (flB n) && endB n))) := by
  have hl := h.2.1.1
  have := allI_rule (L := iIsValidNetwork_L1 n) n.Devices (memB n) (some (leB ((n.Flights.length : Nat) : Int) 200 && (n.Flights.all (flB n) && endB n))) (by omega) (fun k x hx hk => by
    simp only [iIsValidNetwork_L1, ltB_lt hk, mem_i h e1 e2 hx, WR_succ (show k < 9223372036854775807 by omega), Option.bind_some, cond_true]
    cases memB n k x <;> rfl) (by
    simp only [iIsValidNetwork_L1, ltB_self, cond_false, flt_i h, lt_le 200]
    cases leB ((n.Flights.length : Nat) : Int) 200 <;> rfl)
  rw [this]
  cases allI (memB n) n.Devices <;> rfl
theorem mems_s : iter (sIsValidNetwork_L1 n) FU 0 = some (allI (memB n) n.Devices && (n.Flights.all (flB n) && endB n)) := by
  have hl := h.2.1.1
  have := allI_rule (L := sIsValidNetwork_L1 n) n.Devices (memB n) (some (n.Flights.all (flB n) && endB n)) (by omega) (fun k x hx hk => by
    simp only [sIsValidNetwork_L1, ltB_lt hk, mem_s h e1 e2 hx, WR_succ (show k < 9223372036854775807 by omega), Option.bind_some, cond_true]
    cases memB n k x <;> rfl) (by simp only [sIsValidNetwork_L1, ltB_self, cond_false, flt_s h])
  rw [this]
  cases allI (memB n) n.Devices <;> rfl
end
theorem eqB_nat {a b : Nat} (h : eqB (a : Int) (b : Int) = true) : a = b := by
  have : (a : Int) = b := by simpa [eqB] using h
  omega
theorem network_i {n : TNetwork} (h : okTNetwork n) : iIsValidNetwork n = some (vNetwork n) := by
  simp only [iIsValidNetwork, map_i h.1, pool_i, Option.bind_some, vNetwork, lt_le 4]
  cases vMap n.Map <;> cases vPool n.Core <;> cases eqB n.Core.UpMask 0 <;> cases leB ((n.Devices.length : Nat) : Int) 4 <;> try rfl
  cases e1 : eqB ((n.Sessions.length : Nat) : Int) ((n.Devices.length : Nat) : Int) <;> cases e2 : eqB ((n.Accounts.length : Nat) : Int) ((n.Devices.length : Nat) : Int) <;> try rfl
  rw [mems_i h (eqB_nat e1) (eqB_nat e2)]; rfl
theorem network_s {n : TNetwork} (h : okTNetwork n) : sIsValidNetwork n = some (vNetwork n) := by
  simp only [sIsValidNetwork, map_s h.1, pool_s, Option.bind_some, vNetwork, lt_le 4, lt_le 200]
  cases vMap n.Map <;> cases vPool n.Core <;> cases eqB n.Core.UpMask 0 <;> cases leB ((n.Devices.length : Nat) : Int) 4 <;> try rfl
  cases e1 : eqB ((n.Sessions.length : Nat) : Int) ((n.Devices.length : Nat) : Int) <;> cases e2 : eqB ((n.Accounts.length : Nat) : Int) ((n.Devices.length : Nat) : Int) <;> try rfl
  rw [mems_s h (eqB_nat e1) (eqB_nat e2)]
  cases allI (memB n) n.Devices <;> cases leB ((n.Flights.length : Nat) : Int) 200 <;> rfl
def oB (o : Option Bool) : Bool := o.getD false
def auB (n : TNetwork) (k : Nat) : Bool := oB (iDeliveredInOrder n k) && (oB (iChargedExactlyOnce n k) && oB (iAcknowledgedWereDelivered n k))
theorem oB_of {a b : Option Bool} (h : ∃ r, a = some r ∧ b = some r) : a = some (oB a) ∧ b = some (oB a) := by
  obtain ⟨r, rfl, rfl⟩ := h; exact ⟨rfl, rfl⟩
def vAudit (n : TNetwork) : Bool := vNetwork n && allI (fun k _ => auB n k) n.Devices
theorem audit_i {n : TNetwork} (h : okTNetwork n) : iAudit n = some (vAudit n) := by
  have hl := h.2.1.1
  have := allI_rule (L := iAudit_L1 n) n.Devices (fun k _ => auB n k) (some true) (by omega) (fun k x hx hk => by
    obtain ⟨d1, _⟩ := oB_of (dio_eq h (k : Int)); obtain ⟨c1, _⟩ := oB_of (ceo_eq h (k : Int)); obtain ⟨a1, _⟩ := oB_of (awd_eq h (k : Int))
    simp only [iAudit_L1, ltB_lt hk, WR_succ (show k < 9223372036854775807 by omega), cond_true, auB]
    rw [d1, c1, a1]
    simp only [Option.bind_some]
    show _ = bif (oB (some (oB _)) && (oB (some (oB _)) && oB (some (oB _)))) then _ else _
    cases oB (iDeliveredInOrder n k) <;> cases oB (iChargedExactlyOnce n k) <;> cases oB (iAcknowledgedWereDelivered n k) <;> rfl) (by simp [iAudit_L1])
  simp only [iAudit, network_i h, Option.bind_some, this, vAudit]
  cases vNetwork n <;> cases allI (fun k _ => auB n k) n.Devices <;> rfl
theorem audit_s {n : TNetwork} (h : okTNetwork n) : sAudit n = some (vAudit n) := by
  have hl := h.2.1.1
  have := allI_rule (L := sAudit_L1 n) n.Devices (fun k _ => auB n k) (some (vNetwork n)) (by omega) (fun k x hx hk => by
    obtain ⟨_, d1⟩ := oB_of (dio_eq h (k : Int)); obtain ⟨_, c1⟩ := oB_of (ceo_eq h (k : Int)); obtain ⟨_, a1⟩ := oB_of (awd_eq h (k : Int))
    simp only [sAudit_L1, ltB_lt hk, WR_succ (show k < 9223372036854775807 by omega), cond_true, auB]
    rw [d1, c1, a1]
    simp only [Option.bind_some]
    cases oB (iDeliveredInOrder n k) <;> cases oB (iChargedExactlyOnce n k) <;> cases oB (iAcknowledgedWereDelivered n k) <;> rfl) (by simp [sAudit_L1, network_s h])
  simp only [sAudit, this, vAudit]
  cases vNetwork n <;> cases allI (fun k _ => auB n k) n.Devices <;> rfl
theorem lFnExactAudit_ok (a : TNetwork) (hp : preTNetwork a) : lFnExactAudit a = some true := by
  unfold lFnExactAudit
  obtain ⟨r, a1, b1, c1⟩ := psz_Network a 1048576 hp (by omega) (by omega)
  rcases c1 with ⟨c1, rfl⟩ | ⟨c1, d1, e1⟩
  · simp [a1, c1]
  simp only [a1, c1, pto_Network a e1, audit_i e1, audit_s e1, peq_Network a e1, booB_refl, Option.bind_some, cond_false, Bool.not_true]
theorem fnExactAudit_fn (x0 : List D) (h0 : WTs [.l [.i .i64, .l [.i .i64]], .l [.i .i64, .i .i64, .i .i64, .i .i64, .i .i64, .i .i64, .i .i64, .i .i64, .i .i64, .b, .i .i64, .i .i64, .l [.i .i64, .l [.i .u8]], .l [.l [.i .u8]]], .l [.i .i64, .i .i64, .i .i64, .i .i64, .i .i64, .i .i64, .i .i64, .l [.i .i64], .i .i64, .i .i64, .i .i64, .i .i64, .i .i64, .i .i64, .i .i64, .i .i64, .i .i64, .i .i64, .i .i64, .i .i64, .i .i64, .i .i64, .i .i64, .l [.l [.i .u8]], .i .i64, .l [.i .i64, .l [.i .u8]], .i .i64, .i .i64, .i .i64, .i .i64], .l [.i .i64, .i .i64, .i .i64, .l [.i .i64, .i .i64]], .l [.i .i64, .b, .b, .i .i64, .i .i64, .i .i64, .i .i64, .i .i64, .i .i64, .i .i64, .i .i64, .i .i64, .i .i64, .i .i64, .i .i64, .i .i64, .i .i64, .i .i64, .i .i64, .l [.i .u8], .i .i64], .i .i64, .i .i64, .i .i64, .i .i64, .i .i64] x0) : Fn Tryz.prog 5 [.agg x0] [rB true] := by
  obtain ⟨a0, rfl, p0⟩ := wtTNetwork h0
  exact lFnExactAudit_c (lFnExactAudit_ok a0 p0)
end Go.AM
