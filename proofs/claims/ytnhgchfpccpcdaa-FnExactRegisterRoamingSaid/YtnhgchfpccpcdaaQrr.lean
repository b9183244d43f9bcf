/-
  Own text: a part of the abstract machine for this seat (Qrr). No statement is proved here.
-/
import Derived.Test.YtnhgchfpccpcdaaQvr
set_option linter.unusedVariables false
set_option linter.unusedSimpArgs false
namespace Go.AM
open Go.Proofs
attribute [local simp] ltB_self eqB_refl ix_nat
def vAgr (d : TRoamingAgreement) : Bool := inR d.Home 0 3 && (inR d.Visited 0 3 && (!eqB d.Home d.Visited && (inR d.Price 0 1000 && inR d.Cap 0 1000000000000)))
theorem iIsValidAgreement_eq (d : TRoamingAgreement) : iIsValidAgreement d = some (vAgr d) := by
  simp only [iIsValidAgreement, iInRange_eq, vAgr, Option.bind_some]
  cases inR d.Home 0 3 <;> cases inR d.Visited 0 3 <;> cases eqB d.Home d.Visited <;> cases inR d.Price 0 1000 <;> rfl
theorem sIsValidAgreement_eq (d : TRoamingAgreement) : sIsValidAgreement d = some (vAgr d) := by
  simp only [sIsValidAgreement, sl1In_eq, vAgr, Option.bind_some]
  cases inR d.Home 0 3 <;> cases inR d.Visited 0 3 <;> cases eqB d.Home d.Visited <;> cases inR d.Price 0 1000 <;> rfl
def agP (h v : Int) (d : TRoamingAgreement) : Bool := eqB d.Home h && eqB d.Visited v
theorem iFindAgreement_eq {xs : List TRoamingAgreement} (hl : xs.length ≤ 1048576) (h v : Int) : iFindAgreement xs h v = some (idxF (agP h v) 0 xs) :=
  find_rule xs (agP h v) (by omega) (fun k x hx hk => by
    simp only [iFindAgreement_L1, ltB_lt hk, ix_nat, hx, WR_succ (show k < 9223372036854775807 by omega), agP, Option.bind_some, cond_true]
    cases eqB x.Home h <;> cases eqB x.Visited v <;> rfl) (by simp [iFindAgreement_L1])
theorem sFindAgreement_eq {xs : List TRoamingAgreement} (hl : xs.length ≤ 1048576) (h v : Int) : sFindAgreement xs h v = some (idxF (agP h v) 0 xs) :=
  find_rule xs (agP h v) (by omega) (fun k x hx hk => by
    simp only [sFindAgreement_L1, ltB_lt hk, ix_nat, hx, WR_succ (show k < 9223372036854775807 by omega), agP, Option.bind_some, cond_true]
    cases eqB x.Home h <;> cases eqB x.Visited v <;> rfl) (by simp [sFindAgreement_L1])
theorem eqB_comm (a b : Int) : eqB a b = eqB b a := by
  by_cases h : a = b
  · subst h; rfl
  · rw [show eqB a b = false from by simp [eqB, h], show eqB b a = false from by simp [eqB, Ne.symm h]]
theorem gIndex_eq {xs : List Int} (hl : xs.length ≤ 1048576) (n : Int) : gslices_Index_int_int xs n = some (idxF (eqB n) 0 xs) :=
  find_rule xs (eqB n) (by omega) (fun k x hx hk => by
    simp only [gslices_Index_int_int_L1, ltB_lt hk, ix_nat, hx, WR_succ (show k < 9223372036854775807 by omega), Option.bind_some, cond_true]
    cases eqB n x <;> rfl) (by simp [gslices_Index_int_int_L1])
theorem gContains_eq {xs : List Int} (hl : xs.length ≤ 1048576) (n : Int) : gslices_Contains_int_int xs n = some (xs.any (eqB n)) := by
  rw [gslices_Contains_int_int, gIndex_eq hl, Option.bind_some, idx_nonneg (by omega)]
theorem sHas_eq {xs : List Int} (hl : xs.length ≤ 1048576) (n : Int) : sl10Has xs n = some (xs.any (eqB n)) :=
  any_rule xs (eqB n) (by omega) (fun k x hx hk => by
    simp only [sl10Has_L1, ltB_lt hk, ix_nat, hx, WR_succ (show k < 9223372036854775807 by omega), Option.bind_some, cond_true, eqB_comm n x]
    cases eqB x n <;> rfl) (by simp [sl10Has_L1])
def rAll (s : TSubscription) (h n : Int) : Bool := eqB n h || s.RoamingNetworks.any (eqB n)
theorem iRoamingAllowed_eq {s : TSubscription} (hl : s.RoamingNetworks.length ≤ 1048576) (h n : Int) : iRoamingAllowed s h n = some (rAll s h n) := by
  simp only [iRoamingAllowed, gContains_eq hl, rAll, Option.bind_some]; cases eqB n h <;> rfl
theorem sRoamingAllowed_eq {s : TSubscription} (hl : s.RoamingNetworks.length ≤ 1048576) (h n : Int) : sRoamingAllowed s h n = some (rAll s h n) := by
  simp only [sRoamingAllowed, sHas_eq hl, rAll, Option.bind_some]; cases eqB n h <;> rfl
theorem check_eq {s : TSubscription} {xs : List TRoamingAgreement} (h1 : s.RoamingNetworks.length ≤ 1048576) (h2 : xs.length ≤ 1048576) (i : TSubscriberID) (n : Int) : ∃ r, iCheckRoaming s xs i n = some r ∧ sCheckRoaming s xs i n = some r := by
  simp only [iCheckRoaming, sCheckRoaming, iInRange_eq, sl1In_eq, iIsValidSubscriberID_eq, sIsValidSubscriberID_eq, iRoamingAllowed_eq h1, sRoamingAllowed_eq h1, iFindAgreement_eq h2, sFindAgreement_eq h2, iIsValidAgreement_eq, sIsValidAgreement_eq, Option.bind_some]
  rcases idx_cases (agP i.Network n) xs 0 with ⟨h3, _⟩ | ⟨j, h3, x, h4, _⟩
  · have h3' : idxF (agP i.Network n) 0 xs = -1 := h3
    rw [h3', show ltB (-1) 0 = true from lt0_t (by omega)]
    simp only [cond_true, Option.bind_some]
    cases inR n 0 3 <;> cases vSub i <;> cases eqB n i.Network <;> cases rAll s i.Network n <;> exact ⟨_, rfl, rfl⟩
  · have h3' : idxF (agP i.Network n) 0 xs = (j : Int) := by simpa using h3
    rw [h3', show ltB (j : Int) 0 = false from lt0_f (by omega)]
    simp only [ix_nat, h4, cond_false, Option.bind_some]
    cases inR n 0 3 <;> cases vSub i <;> cases eqB n i.Network <;> cases rAll s i.Network n <;> cases vAgr x <;> exact ⟨_, rfl, rfl⟩
/-- The temporary identities of a network's registrations. -/
def tempsB (net : Int) (acc : List TTempID) (x : TRegistration) : Option (Step (List TTempID) (List TTempID)) :=
  bif eqB x.Network net then (bif apOk 16 (acc ++ [x.TempID]).length then some (.next (acc ++ [x.TempID])) else none) else some (.next acc)
theorem iTempIDsIn_eq {xs : List TRegistration} (h : xs.length ≤ 1048576) (net : Int) : iTempIDsIn xs net = forL (tempsB net) some xs [] := by
  have := iter_for (step := iTempIDsIn_L1 xs net) xs (fun k (s : List TTempID) => ((k : Int), s)) (tempsB net) some (by omega)
    (fun k x s hx hk => by
      simp only [iTempIDsIn_L1, ltB_lt hk, ix_nat, hx, WR_succ (show k < 9223372036854775807 by omega), tempsB, Option.bind_some, cond_true]
      cases eqB x.Network net <;> cases apOk 16 (s ++ [x.TempID]).length <;> rfl) (fun s => by simp [iTempIDsIn_L1]) []
  simpa [iTempIDsIn] using this
theorem sTempIDsIn_eq {xs : List TRegistration} (h : xs.length ≤ 1048576) (net : Int) : sTempIDsIn xs net = forL (tempsB net) some xs [] := by
  have := iter_for (step := sTempIDsIn_L1 xs net) xs (fun k (s : List TTempID) => ((k : Int), s)) (tempsB net) some (by omega)
    (fun k x s hx hk => by
      simp only [sTempIDsIn_L1, ltB_lt hk, ix_nat, hx, WR_succ (show k < 9223372036854775807 by omega), tempsB, Option.bind_some, cond_true]
      cases eqB x.Network net <;> cases apOk 16 (s ++ [x.TempID]).length <;> rfl) (fun s => by simp [sTempIDsIn_L1]) []
  simpa [sTempIDsIn] using this
theorem temps_some (net : Int) : ∀ (xs : List TRegistration) (acc : List TTempID), acc.length + xs.length ≤ 1048576 → ∃ r, forL (tempsB net) some xs acc = some r ∧ r.length ≤ acc.length + xs.length
  | [], acc, h => ⟨acc, rfl, by simp⟩
  | x :: xs, acc, h => by
    simp only [List.length_cons] at h
    rw [forL]
    cases hb : eqB x.Network net with
    | false =>
      obtain ⟨r, h1, h2⟩ := temps_some net xs acc (by omega)
      exact ⟨r, by simpa [tempsB, hb] using h1, by simp; omega⟩
    | true =>
      have ha : apOk 16 (acc ++ [x.TempID]).length = true := by simp [apOk]; omega
      obtain ⟨r, h1, h2⟩ := temps_some net xs (acc ++ [x.TempID]) (by simp; omega)
      refine ⟨r, ?_, by simp at h2 ⊢; omega⟩
      simp only [tempsB, hb, ha, cond_true]
      exact h1

def tidP (t x : TTempID) : Bool := eqB x.Pool t.Pool && (eqB x.Number t.Number && true)
theorem sl4Has_eq {xs : List TTempID} (hl : xs.length ≤ 1048576) (t : TTempID) : sl4Has xs t = some (xs.any (tidP t)) :=
  any_rule xs (tidP t) (by omega) (fun k x hx hk => by
    simp only [sl4Has_L1, ltB_lt hk, ix_nat, hx, WR_succ (show k < 9223372036854775807 by omega), tidP, Option.bind_some, cond_true]
    cases eqB x.Pool t.Pool && (eqB x.Number t.Number && true) <;> rfl) (by simp [sl4Has_L1])
theorem gHasT_eq {xs : List TTempID} (hl : xs.length ≤ 1048576) (t : TTempID) : gslices_Contains_impl_TempID_impl_TempID xs t = some (xs.any (tidP t)) := by
  have := find_rule (L := gslices_Index_impl_TempID_impl_TempID_L1 xs t) xs (tidP t) (by omega) (fun k x hx hk => by
    simp only [gslices_Index_impl_TempID_impl_TempID_L1, ltB_lt hk, ix_nat, hx, WR_succ (show k < 9223372036854775807 by omega), tidP, Option.bind_some, cond_true, eqB_comm t.Pool x.Pool, eqB_comm t.Number x.Number]
    cases eqB x.Pool t.Pool && (eqB x.Number t.Number && true) <;> rfl) (by simp [gslices_Index_impl_TempID_impl_TempID_L1])
  rw [gslices_Contains_impl_TempID_impl_TempID, gslices_Index_impl_TempID_impl_TempID, this]
  simp only [Option.bind_some, idx_nonneg (show (0 : Int) ≤ 0 by omega)]
def cand (k p : Int) (i : TSubscriberID) (a : Int) : TTempID := ⟨p, khash k [i.Network, i.Number, a] % 10000⟩
theorem iCand_eq (k p : Int) (i : TSubscriberID) (a : Int) : iTempIDCandidate k p i a = some (cand k p i a) := by
  rw [iTempIDCandidate, iKeyedHash_eq (by simp)]
  simp only [Option.bind_some]
  rw [Int.tmod_eq_emod_of_nonneg (khash_in _ _).1]
  rfl
theorem sCand_eq (k p : Int) (i : TSubscriberID) (a : Int) : sTempIDCandidate k p i a = some (cand k p i a) := by
  rw [sTempIDCandidate, sKeyedHash_eq (by simp)]
  simp only [Option.bind_some]
  rw [sMod_eq _ (by omega) (by omega)]
  rfl
theorem alloc_eq {xs : List TTempID} (hl : xs.length ≤ 1048576) (k p : Int) (i : TSubscriberID) : ∃ r, iAllocateTempID k p i xs = some r ∧ sAllocateTempID k p i xs = some r := by
  have hst : sAllocateTempID_L1 k p i xs = iAllocateTempID_L1 k p i xs := by
    funext v
    simp only [sAllocateTempID_L1, iAllocateTempID_L1, iCand_eq, sCand_eq, sl4Has_eq hl, gHasT_eq hl]
  have := iter_cnt (step := iAllocateTempID_L1 k p i xs) 0 50 (by omega) (by omega) (fun j (_ : Unit) => (j : Int))
    (fun _ j => bif !xs.any (tidP (cand k p i (j : Int))) then some (.done (cand k p i (j : Int), true)) else some (.next ())) (fun _ => some ((⟨0, 0⟩ : TTempID), false))
    (fun j s h1 h2 => by
      have h4 : ltB (j : Int) 50 = true := ltB_lt (a := j) (b := 50) h2
      simp only [iAllocateTempID_L1, h4, iCand_eq, gHasT_eq hl, Option.bind_some, cond_true, WR_succ (show j < 9223372036854775807 by omega)]
      cases xs.any (tidP (cand k p i (j : Int))) <;> rfl)
    (fun s => by simp only [iAllocateTempID_L1, show ltB ((50 : Nat) : Int) 50 = false from ltB_self 50, cond_false]) ()
  have key : ∀ l : List Nat, ∃ r, forL (fun (_ : Unit) (j : Nat) => bif !xs.any (tidP (cand k p i (j : Int))) then some (Step.done (cand k p i (j : Int), true)) else some (.next ())) (fun _ => some ((⟨0, 0⟩ : TTempID), false)) l () = some r := by
    intro l
    induction l with
    | nil => exact ⟨_, rfl⟩
    | cons j l ih =>
      rw [forL]
      cases xs.any (tidP (cand k p i (j : Int)))
      · exact ⟨_, rfl⟩
      · exact ih
  obtain ⟨r, hr⟩ := key (List.range' 0 (50 - 0))
  have h1 : iAllocateTempID k p i xs = some r := by rw [iAllocateTempID]; exact this.trans hr
  exact ⟨r, h1, by rw [sAllocateTempID, hst]; exact h1⟩
theorem regU_len {xs : List Reg} (r : Reg) : (regU xs r).1.length ≤ xs.length + 1 := by
  unfold regU
  simp only
  cases leB 0 (idxF (idP r.ID) 0 xs) with
  | false => cases vRegs (bif false then xs.set (idxF (idP r.ID) 0 xs).toNat r else xs ++ [r]) <;> simp
  | true => cases vRegs (bif true then xs.set (idxF (idP r.ID) 0 xs).toNat r else xs ++ [r]) <;> simp
theorem regU_len8 {xs : List Reg} (r : Reg) (hl : xs.length ≤ 1048576) : (regU xs r).1.length ≤ 1048576 := by
  unfold regU
  simp only
  generalize hy : (bif leB 0 (idxF (idP r.ID) 0 xs) then xs.set (idxF (idP r.ID) 0 xs).toNat r else xs ++ [r]) = ys
  cases hv : vRegs ys with
  | false => simpa using hl
  | true =>
    have : leB ((ys.length : Nat) : Int) 8 = true := by simp only [vRegs, Bool.and_eq_true] at hv; exact hv.1
    simp only [leB, decide_eq_true_eq] at this
    simp only [cond_true]; omega
theorem reg_eq {xs : List Reg} (h0 : xs.length ≤ 1048576) {s : TSubscription} {ds : List TRoamingAgreement} (h1 : s.RoamingNetworks.length ≤ 1048576) (h2 : ds.length ≤ 1048576) (i : TSubscriberID) (n a k : Int) :
    ∃ r, iRegisterRoaming xs s ds i n a k = some r ∧ sRegisterRoaming xs s ds i n a k = some r ∧ r.Registrations.length ≤ 1048576 := by
  obtain ⟨c, c1, c2⟩ := check_eq h1 h2 i n
  obtain ⟨t, t1, t2⟩ := temps_some n xs [] (by simpa using h0)
  simp only [List.length_nil, Nat.zero_add] at t2
  obtain ⟨q, q1, q2⟩ := alloc_eq (xs := t) (by omega) k n i
  simp only [iRegisterRoaming, sRegisterRoaming, c1, c2, iTempIDsIn_eq h0, sTempIDsIn_eq h0, t1, q1, q2, iRegister_eq h0, sRegister_eq h0, irefuseRoaming, sl37Fail, icopy_eq h0, scopy_eq h0, Option.bind_some]
  cases eqB c 0
  · exact ⟨_, rfl, rfl, h0⟩
  obtain ⟨q, b⟩ := q
  cases b
  · exact ⟨_, rfl, rfl, h0⟩
  have h8 := regU_len8 (⟨i, n, a, q⟩ : Reg) h0
  simp only [Bool.not_true, cond_false]
  cases hb : (regU xs (⟨i, n, a, q⟩ : Reg)).2.2
  · exact ⟨_, rfl, rfl, h0⟩
  simp only [Bool.not_true, cond_false]
  cases eqB (regU xs (⟨i, n, a, q⟩ : Reg)).2.1 n
  · exact ⟨_, rfl, rfl, h8⟩
  · exact ⟨_, rfl, rfl, h8⟩
theorem lFnExactRegisterRoaming_ok (xs : List TRegistration) (hp : preL (fun _ => True) xs) (s : TSubscription) (hs : preTSubscription s) (ds : List TRoamingAgreement) (hd : preL (fun _ => True) ds) (i : TSubscriberID) (hi : True) (n : Int) (hn : (Lit.int .i64 n).wf = true) (a : Int) (ha : (Lit.int .i64 a).wf = true) (k : Int) (hk : (Lit.int .i64 k).wf = true) : lFnExactRegisterRoaming xs s ds i n a k = some true := by
  unfold lFnExactRegisterRoaming
  obtain ⟨r1, a1, b1, c1⟩ := psz_RegistrationS xs 1048576 hp (by omega) (by omega)
  rcases c1 with ⟨c1, rfl⟩ | ⟨c1, d1, e1⟩
  · simp [a1, c1]
  obtain ⟨r2, a2, b2, c2⟩ := psz_Subscription s r1 hs (by omega) (by omega)
  rcases c2 with ⟨c2, rfl⟩ | ⟨c2, d2, e2⟩
  · simp [a1, c1, a2, c2]
  obtain ⟨r3, a3, b3, c3⟩ := psz_RoamingAgreementS ds r2 hd (by omega) (by omega)
  rcases c3 with ⟨c3, rfl⟩ | ⟨c3, d3, e3⟩
  · simp [a1, c1, a2, c2, a3, c3]
  obtain ⟨r, h1, h2, h3⟩ := reg_eq e1.1 (s := s) e2.1 e3.1 i n a k
  have hr : okTRoamingResult r := ⟨h3, fun _ _ => trivial⟩
  have hrl : okL (fun _ => True) r.Registrations := ⟨h3, fun _ _ => trivial⟩
  obtain ⟨k1, z1, z2, z3⟩ := pz_RegistrationS xs 1 e1 (by omega) (by omega)
  obtain ⟨k2, y1, y2, y3⟩ := pz_Subscription s k1 e2 (by omega) (by omega)
  obtain ⟨k3, x1, x2, x3⟩ := pz_RoamingAgreementS ds k2 e3 (by omega) (by omega)
  have hz : ltB k3 0 = false := lt0_f (by omega)
  have hm2 : ltB (1 + (6 : Int) * (r.Registrations.length : Int)) 0 = false := lt0_f (by omega)
  have hle : lenEq (marks gRegistrationS 6 r.Registrations.length 1) r.Registrations = true := by simp [lenEq, marks_len]
  have hmk : lmarkRoamingResult r 1 = some (1 + (6 : Int) * (r.Registrations.length : Int), marks gRegistrationS 6 r.Registrations.length 1) := by
    simp only [lmarkRoamingResult, pmark_RegistrationS r.Registrations (by omega), Option.bind_some, hle, cond_true]
  have hhl : ∀ (c d : Int) (t : TTempID), lheldRoamingResult ⟨c, marks gRegistrationS 6 r.Registrations.length 1, d, t⟩ 1 = some (1 + (6 : Int) * (r.Registrations.length : Int)) := by
    intro c d t
    simp only [lheldRoamingResult, pheld_RegistrationS r.Registrations.length (by omega), Option.bind_some, hm2, cond_false]
  simp only [a1, c1, a2, c2, a3, c3, pto_RegistrationS xs e1, pto_Subscription s e2, pto_RoamingAgreementS ds e3, pto_SubscriberID i trivial, h1, h2, peq_RoamingResult r hr, peq_RegistrationS xs e1, peq_Subscription s e2, peq_RoamingAgreementS ds e3, z1, y1, x1, hz, hmk, hhl, hle, hm2, eqB_refl, Option.bind_some, cond_true, cond_false, Bool.not_true]
theorem fnExactRegisterRoaming_fn (x0 : D) (h0 : WT (.l [.i .i64, .i .i64, .i .i64, .i .i64, .i .i64, .i .i64]) x0) (x1 : List D) (h1 : WTs [.i .i64, .i .i64, .i .i64, .l [.i .i64]] x1) (x2 : D) (h2 : WT (.l [.i .i64, .i .i64, .i .i64, .i .i64]) x2) (x3 : List D) (h3 : WTs [.i .i64, .i .i64] x3) (x4 : D) (h4 : WT (.i .i64) x4) (x5 : D) (h5 : WT (.i .i64) x5) (x6 : D) (h6 : WT (.i .i64) x6) : Fn Try.prog 10 [.c x0, .agg x1, .c x2, .agg x3, .c x4, .c x5, .c x6] [rB true] := by
  obtain ⟨y0, rfl, l0, w0⟩ := h0.gl
  obtain ⟨a0, rfl, p0⟩ := WTL_map (f := eTRegistration) (p := fun _ => True) (fun _ h => wtTRegistration h) w0
  obtain ⟨a1, rfl, p1⟩ := wtTSubscription h1
  obtain ⟨y2, rfl, l2, w2⟩ := h2.gl
  obtain ⟨a2, rfl, p2⟩ := WTL_map (f := eTRoamingAgreement) (p := fun _ => True) (fun _ h => wtTRoamingAgreement h) w2
  obtain ⟨a3, rfl, p3⟩ := wtTSubscriberID h3
  obtain ⟨a4, rfl, w4⟩ := h4.gi
  obtain ⟨a5, rfl, w5⟩ := h5.gi
  obtain ⟨a6, rfl, w6⟩ := h6.gi
  exact lFnExactRegisterRoaming_c (lFnExactRegisterRoaming_ok a0 ⟨by simpa using l0, p0⟩ a1 p1 a2 ⟨by simpa using l2, p2⟩ a3 p3 a4 w4 a5 w5 a6 w6)
end Go.AM
