/-
  Own text: a part of the abstract machine for this seat (Pc). No statement is proved here.
-/
import Derived.Test.YtlmhnjhknfcpgaaGcl
import Derived.Test.YtlmhnjhknfcpgaaPcm
set_option linter.unusedVariables false
set_option linter.unusedSimpArgs false
namespace Go.AM
open Go.Proofs
attribute [local simp] ltB_self eqB_refl ix_nat
/-! roaming -/
def inR (n a b : Int) : Bool := leB a n && leB n b
theorem iInRange_eq (n a b : Int) : iInRange n a b = some (inR n a b) := by unfold iInRange inR; cases leB a n <;> rfl
theorem sl1In_eq (n a b : Int) : sl1In n a b = some (inR n a b) := by unfold sl1In inR; cases leB a n <;> rfl
def vSub (x : TSubscriberID) : Bool := inR x.Network 0 3 && inR x.Number 0 99
theorem iIsValidSubscriberID_eq (x : TSubscriberID) : iIsValidSubscriberID x = some (vSub x) := by simp only [iIsValidSubscriberID, iInRange_eq, vSub, Option.bind_some]; cases inR x.Network 0 3 <;> rfl
theorem sIsValidSubscriberID_eq (x : TSubscriberID) : sIsValidSubscriberID x = some (vSub x) := by simp only [sIsValidSubscriberID, sl1In_eq, vSub, Option.bind_some]; cases inR x.Network 0 3 <;> rfl
def vAgr (d : TRoamingAgreement) : Bool := inR d.Home 0 3 && (inR d.Visited 0 3 && (!eqB d.Home d.Visited && (inR d.Price 0 1000 && inR d.Cap 0 1000000000000)))
theorem iIsValidAgreement_eq (d : TRoamingAgreement) : iIsValidAgreement d = some (vAgr d) := by
  simp only [iIsValidAgreement, iInRange_eq, vAgr, Option.bind_some]
  cases inR d.Home 0 3 <;> cases inR d.Visited 0 3 <;> cases eqB d.Home d.Visited <;> cases inR d.Price 0 1000 <;> rfl
theorem sIsValidAgreement_eq (d : TRoamingAgreement) : sIsValidAgreement d = some (vAgr d) := by
  simp only [sIsValidAgreement, sl1In_eq, vAgr, Option.bind_some]
  cases inR d.Home 0 3 <;> cases inR d.Visited 0 3 <;> cases eqB d.Home d.Visited <;> cases inR d.Price 0 1000 <;> rfl
def agP (h v : Int) (d : TRoamingAgreement) : Bool := eqB d.Home h && eqB d.Visited v
theorem iFindAgreement_eq {xs : List TRoamingAgreement} (hl : xs.length ≤ 1048576) (h v : Int) : iFindAgreement xs h v = some (idxF (agP h v) 0 xs) :=
  find_rule xs (agP h v) (by omega) (fun k x hx hk => by
    simp only [iFindAgreement_L1, ltB_lt hk, ix_nat, hx, WR_succ (show k < 9223372036854775807 by omega), agP, Option.bind_some, cond_true]
    cases eqB x.Home h <;> cases eqB x.Visited v <;> rfl) (by simp [iFindAgreement_L1])
theorem sFindAgreement_eq {xs : List TRoamingAgreement} (hl : xs.length ≤ 1048576) (h v : Int) : sFindAgreement xs h v = some (idxF (agP h v) 0 xs) :=
  find_rule xs (agP h v) (by omega) (fun k x hx hk => by
    simp only [sFindAgreement_L1, ltB_lt hk, ix_nat, hx, WR_succ (show k < 9223372036854775807 by omega), agP, Option.bind_some, cond_true]
    cases eqB x.Home h <;> cases eqB x.Visited v <;> rfl) (by simp [sFindAgreement_L1])
theorem eqB_comm (a b : Int) : eqB a b = eqB b a := by
  by_cases h : a = b
  · subst h; rfl
  · rw [show eqB a b = false from by simp [eqB, h], show eqB b a = false from by simp [eqB, Ne.symm h]]
theorem gIndex_eq {xs : List Int} (hl : xs.length ≤ 1048576) (n : Int) : gslices_Index_int_int xs n = some (idxF (eqB n) 0 xs) :=
  find_rule xs (eqB n) (by omega) (fun k x hx hk => by
    simp only [gslices_Index_int_int_L1, ltB_lt hk, ix_nat, hx, WR_succ (show k < 9223372036854775807 by omega), Option.bind_some, cond_true]
    cases eqB n x <;> rfl) (by simp [gslices_Index_int_int_L1])
theorem gContains_eq {xs : List Int} (hl : xs.length ≤ 1048576) (n : Int) : gslices_Contains_int_int xs n = some (xs.any (eqB n)) := by
  rw [gslices_Contains_int_int, gIndex_eq hl, Option.bind_some, idx_nonneg (by omega)]
theorem sHas_eq {xs : List Int} (hl : xs.length ≤ 1048576) (n : Int) : sl10Has xs n = some (xs.any (eqB n)) :=
  any_rule xs (eqB n) (by omega) (fun k x hx hk => by
    simp only [sl10Has_L1, ltB_lt hk, ix_nat, hx, WR_succ (show k < 9223372036854775807 by omega), Option.bind_some, cond_true, eqB_comm n x]
    cases eqB x n <;> rfl) (by simp [sl10Has_L1])
def rAll (s : TSubscription) (h n : Int) : Bool := eqB n h || s.RoamingNetworks.any (eqB n)
theorem iRoamingAllowed_eq {s : TSubscription} (hl : s.RoamingNetworks.length ≤ 1048576) (h n : Int) : iRoamingAllowed s h n = some (rAll s h n) := by
  simp only [iRoamingAllowed, gContains_eq hl, rAll, Option.bind_some]; cases eqB n h <;> rfl
theorem sRoamingAllowed_eq {s : TSubscription} (hl : s.RoamingNetworks.length ≤ 1048576) (h n : Int) : sRoamingAllowed s h n = some (rAll s h n) := by
  simp only [sRoamingAllowed, sHas_eq hl, rAll, Option.bind_some]; cases eqB n h <;> rfl
theorem check_eq {s : TSubscription} {xs : List TRoamingAgreement} (h1 : s.RoamingNetworks.length ≤ 1048576) (h2 : xs.length ≤ 1048576) (i : TSubscriberID) (n : Int) : ∃ r, iCheckRoaming s xs i n = some r ∧ sCheckRoaming s xs i n = some r := by
  simp only [iCheckRoaming, sCheckRoaming, iInRange_eq, sl1In_eq, iIsValidSubscriberID_eq, sIsValidSubscriberID_eq, iRoamingAllowed_eq h1, sRoamingAllowed_eq h1, iFindAgreement_eq h2, sFindAgreement_eq h2, iIsValidAgreement_eq, sIsValidAgreement_eq, Option.bind_some]
  rcases idx_cases (agP i.Network n) xs 0 with ⟨h3, _⟩ | ⟨j, h3, x, h4, _⟩
  · have h3' : idxF (agP i.Network n) 0 xs = -1 := h3
    rw [h3', show ltB (-1) 0 = true from lt0_t (by omega)]
    simp only [cond_true, Option.bind_some]
    cases inR n 0 3 <;> cases vSub i <;> cases eqB n i.Network <;> cases rAll s i.Network n <;> exact ⟨_, rfl, rfl⟩
  · have h3' : idxF (agP i.Network n) 0 xs = (j : Int) := by simpa using h3
    rw [h3', show ltB (j : Int) 0 = false from lt0_f (by omega)]
    simp only [ix_nat, h4, cond_false, Option.bind_some]
    cases inR n 0 3 <;> cases vSub i <;> cases eqB n i.Network <;> cases rAll s i.Network n <;> cases vAgr x <;> exact ⟨_, rfl, rfl⟩
theorem lFnExactCheckRoaming_ok (s : TSubscription) (hs : preTSubscription s) (xs : List TRoamingAgreement) (hx : preL (fun _ => True) xs) (i : TSubscriberID) (hi : True) (n : Int) (hn : (Lit.int .i64 n).wf = true) : lFnExactCheckRoaming s xs i n = some true := by
  unfold lFnExactCheckRoaming
  obtain ⟨r1, a1, b1, c1⟩ := psz_Subscription s 1048576 hs (by omega) (by omega)
  rcases c1 with ⟨c1, rfl⟩ | ⟨c1, d1, e1⟩
  · simp [a1, c1]
  obtain ⟨r2, a2, b2, c2⟩ := psz_RoamingAgreementS xs r1 hx d1 b1
  rcases c2 with ⟨c2, rfl⟩ | ⟨c2, d2, e2⟩
  · simp [a1, c1, a2, c2]
  obtain ⟨r, k1, k2⟩ := check_eq (s := s) (xs := xs) e1.1 e2.1 i n
  simp [a1, c1, a2, c2, pto_Subscription s e1, pto_RoamingAgreementS xs e2, pto_SubscriberID i trivial, k1, k2, peq_Subscription s e1, peq_RoamingAgreementS xs e2]
theorem fnExactCheckRoaming_fn (x0 : List D) (h0 : WTs [.i .i64, .i .i64, .i .i64, .l [.i .i64]] x0) (x1 : D) (h1 : WT (.l [.i .i64, .i .i64, .i .i64, .i .i64]) x1) (x2 : List D) (h2 : WTs [.i .i64, .i .i64] x2) (x3 : D) (h3 : WT (.i .i64) x3) : Fn Try.prog 10 [.agg x0, .c x1, .agg x2, .c x3] [rB true] := by
  obtain ⟨a0, rfl, p0⟩ := wtTSubscription h0
  obtain ⟨y1, rfl, l1, w1⟩ := h1.gl
  obtain ⟨a1, rfl, p1⟩ := WTL_map (f := eTRoamingAgreement) (p := fun _ => True) (fun _ h => wtTRoamingAgreement h) w1
  obtain ⟨a2, rfl, p2⟩ := wtTSubscriberID h2
  obtain ⟨a3, rfl, w3⟩ := h3.gi
  exact lFnExactCheckRoaming_c (lFnExactCheckRoaming_ok a0 p0 a1 ⟨by simpa using l1, p1⟩ a2 p2 a3 w3)
end Go.AM
