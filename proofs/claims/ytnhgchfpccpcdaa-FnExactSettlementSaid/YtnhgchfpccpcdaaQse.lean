/-
  Own text: a part of the abstract machine for this seat (Qse). No statement is proved here.
-/
import Derived.Test.YtnhgchfpccpcdaaHal
import Derived.Test.YtnhgchfpccpcdaaQam
set_option linter.unusedVariables false
set_option linter.unusedSimpArgs false
namespace Go.AM
open Go.Proofs
attribute [local simp] ltB_self eqB_refl ix_nat
theorem iInRange_eq (n a b : Int) : iInRange n a b = some (inR n a b) := by unfold iInRange inR; cases leB a n <;> rfl
theorem sl1In_eq (n a b : Int) : sl1In n a b = some (inR n a b) := by unfold sl1In inR; cases leB a n <;> rfl
def vRec (r : TUsageRecord) : Bool := inR r.Network 0 3 && (leB 0 r.SessionID && (inR r.Seq 1 100000 && inR r.Bytes 0 100000))
theorem iIsValidRecord_eq (r : TUsageRecord) : iIsValidRecord r = some (vRec r) := by
  simp only [iIsValidRecord, iInRange_eq, vRec, Option.bind_some]; cases inR r.Network 0 3 <;> cases leB 0 r.SessionID <;> cases inR r.Seq 1 100000 <;> rfl
theorem sIsValidRecord_eq (r : TUsageRecord) : sIsValidRecord r = some (vRec r) := by
  simp only [sIsValidRecord, sl1In_eq, vRec, Option.bind_some]; cases inR r.Network 0 3 <;> cases leB 0 r.SessionID <;> cases inR r.Seq 1 100000 <;> rfl
def recP (r x : TUsageRecord) : Bool := eqB x.Network r.Network && (eqB x.SessionID r.SessionID && eqB x.Seq r.Seq)
theorem iFindRecord_eq {xs : List TUsageRecord} (hl : xs.length ≤ 1048576) (r : TUsageRecord) : iFindRecord xs r = some (idxF (recP r) 0 xs) :=
  find_rule xs (recP r) (by omega) (fun k x hx hk => by
    simp only [iFindRecord_L1, isameRecord, ltB_lt hk, ix_nat, hx, WR_succ (show k < 9223372036854775807 by omega), recP, Option.bind_some, cond_true]
    cases eqB x.Network r.Network <;> cases eqB x.SessionID r.SessionID <;> cases eqB x.Seq r.Seq <;> rfl) (by simp [iFindRecord_L1])
theorem sFindRecord_eq {xs : List TUsageRecord} (hl : xs.length ≤ 1048576) (r : TUsageRecord) : sFindRecord xs r = some (idxF (recP r) 0 xs) :=
  find_rule xs (recP r) (by omega) (fun k x hx hk => by
    simp only [sFindRecord_L1, ltB_lt hk, ix_nat, hx, WR_succ (show k < 9223372036854775807 by omega), recP, Option.bind_some, cond_true]
    cases eqB x.Network r.Network <;> cases eqB x.SessionID r.SessionID <;> cases eqB x.Seq r.Seq <;> rfl) (by simp [sFindRecord_L1])
theorem recP_refl (r : TUsageRecord) : recP r r = true := by simp [recP]
/-- The first place of a record is its own just where no earlier one is like it. -/
theorem first_iff {xs : List TUsageRecord} {k : Nat} {x : TUsageRecord} (hx : xs[k]? = some x) : (!eqB (idxF (recP x) 0 xs) (k : Int)) = leB 0 (idxF (recP x) 0 (xs.take k)) := by
  have hk := (List.getElem?_eq_some_iff.1 hx).1
  rw [idx_nonneg (by omega)]
  rcases idx_cases (recP x) xs 0 with ⟨h1, h2⟩ | ⟨j, h1, y, h2, h3, h4⟩
  · have := h2 x (List.mem_of_getElem? hx); rw [recP_refl] at this; cases this
  · have h1' : idxF (recP x) 0 xs = (j : Int) := by simpa using h1
    rw [h1']
    by_cases hjk : j = k
    · subst hjk
      rw [eqB_refl]
      symm
      rw [Bool.not_true, Bool.eq_false_iff]
      intro ha
      obtain ⟨z, hz1, hz2⟩ := List.any_eq_true.1 ha
      rw [h4 z hz1] at hz2; cases hz2
    · have hlt : j < k := by
        rcases Nat.lt_or_gt_of_ne hjk with h | h
        · exact h
        · have : x ∈ xs.take j := List.mem_of_getElem? (i := k) (by rw [List.getElem?_take, if_pos h]; exact hx)
          have := h4 x this; rw [recP_refl] at this; cases this
      rw [show eqB (j : Int) (k : Int) = false from by simp [eqB]; omega]
      symm
      rw [Bool.not_false, List.any_eq_true]
      exact ⟨y, List.mem_of_getElem? (i := j) (by rw [List.getElem?_take, if_pos hlt]; exact h2), h3⟩
/-- Over the elements, all must be so; then the answer is c. -/
theorem allk_rule {α : Type} {L : Int → Option (Step Int Bool)} (xs : List α) (p : Nat → α → Bool) (c : Option Bool) (hl : xs.length ≤ 9223372036854775806)
    (hs : ∀ (k : Nat) (x : α), xs[k]? = some x → k < xs.length → L (k : Int) = bif p k x then some (.next ((k + 1 : Nat) : Int)) else some (.done false)) (he : L ((xs.length : Nat) : Int) = dn c) :
    iter L FU 0 = bif xs.zipIdx.all (fun y => p y.2 y.1) then c else some false := by
  have := iter_for (step := L) xs.zipIdx (fun k (_ : Unit) => (k : Int)) (fun _ y => bif p y.2 y.1 then some (.next ()) else some (.done false)) (fun _ => c) (by simpa using hl)
    (fun k y s hy hk => by
      have hk' : k < xs.length := by simpa using hk
      have : y = (xs[k], k) := by rw [List.getElem?_eq_getElem hk] at hy; simpa using hy.symm
      subst this
      rw [hs k xs[k] (List.getElem?_eq_getElem hk') hk']; cases p k xs[k] <;> rfl) (fun s => by rw [List.length_zipIdx, he]) ()
  refine Eq.trans (show iter L FU 0 = _ from this) ?_
  have key : ∀ ys : List (α × Nat), forL (fun (_ : Unit) y => bif p y.2 y.1 then some (.next ()) else some (Step.done false)) (fun _ => c) ys () = bif ys.all (fun y => p y.2 y.1) then c else some false := by
    intro ys
    induction ys with
    | nil => rfl
    | cons x xs ih => rw [forL]; cases hp : p x.2 x.1 <;> simp [hp, ih]
  exact key _
def vRecs (xs : List TUsageRecord) : Bool := leB ((xs.length : Nat) : Int) 24 && xs.zipIdx.all (fun y => vRec y.1 && eqB (idxF (recP y.1) 0 xs) (y.2 : Int))
theorem leB_not (a b : Int) : ltB a b = !leB b a := by
  by_cases h : a < b
  · rw [show ltB a b = true from by simp [ltB, h], show leB b a = false from by simp [leB]; omega]; rfl
  · rw [show ltB a b = false from by simp [ltB]; omega, show leB b a = true from by simp [leB]; omega]; rfl
theorem iAreValidRecords_eq {xs : List TUsageRecord} (hl : xs.length ≤ 1048576) : iAreValidRecords xs = some (vRecs xs) := by
  have := allk_rule (L := iAreValidRecords_L1 xs) xs (fun k x => vRec x && eqB (idxF (recP x) 0 xs) (k : Int)) (some true) (by omega)
    (fun k x hx hk => by
      simp only [iAreValidRecords_L1, ltB_lt hk, ix_nat, hx, iIsValidRecord_eq, iFindRecord_eq hl, WR_succ (show k < 9223372036854775807 by omega), Option.bind_some, cond_true]
      cases vRec x <;> cases eqB (idxF (recP x) 0 xs) (k : Int) <;> rfl) (by simp [iAreValidRecords_L1])
  unfold iAreValidRecords vRecs
  rw [this, leB_not]
  cases leB ((xs.length : Nat) : Int) 24 <;> cases xs.zipIdx.all (fun y => vRec y.1 && eqB (idxF (recP y.1) 0 xs) (y.2 : Int)) <;> rfl
theorem sAreValidRecords_eq {xs : List TUsageRecord} (hl : xs.length ≤ 1048576) : sAreValidRecords xs = some (vRecs xs) := by
  have := allk_rule (L := sAreValidRecords_L1 xs) xs (fun k x => vRec x && eqB (idxF (recP x) 0 xs) (k : Int)) (some (leB ((xs.length : Nat) : Int) 24)) (by omega)
    (fun k x hx hk => by
      have hf := first_iff hx
      have hsl : slOk xs 0 (k : Int) = true := by simp [slOk]; omega
      simp only [sAreValidRecords_L1, ltB_lt hk, ix_nat, hx, sIsValidRecord_eq, hsl, sFindRecord_eq (xs := xs.take k) (by simp; omega), Int.toNat_natCast, WR_succ (show k < 9223372036854775807 by omega), Option.bind_some, cond_true, ← hf]
      cases vRec x <;> cases eqB (idxF (recP x) 0 xs) (k : Int) <;> rfl) (by simp [sAreValidRecords_L1])
  unfold sAreValidRecords vRecs
  rw [this]
  cases leB ((xs.length : Nat) : Int) 24 <;> cases xs.zipIdx.all (fun y => vRec y.1 && eqB (idxF (recP y.1) 0 xs) (y.2 : Int)) <;> rfl
def vBook (b : TOperatorBook) : Bool := b.Claims.zipIdx.all (fun y => eqB y.1.Network b.Network) && (inR b.Network 0 3 && (vRecs b.Own && vRecs b.Claims))
theorem iIsValidBook_eq {b : TOperatorBook} (h : okTOperatorBook b) : iIsValidBook b = some (vBook b) := by
  have := h.2.1
  have hr := allk_rule (L := iIsValidBook_L1 b) b.Claims (fun _ x => eqB x.Network b.Network) (some true) (by omega)
    (fun k x hx hk => by
      simp only [iIsValidBook_L1, ltB_lt hk, ix_nat, hx, WR_succ (show k < 9223372036854775807 by omega), Option.bind_some, cond_true]
      cases eqB x.Network b.Network <;> rfl) (by simp [iIsValidBook_L1])
  simp only [iIsValidBook, iInRange_eq, iAreValidRecords_eq h.1.1, iAreValidRecords_eq h.2.1, hr, vBook, Option.bind_some]
  cases inR b.Network 0 3 <;> cases vRecs b.Own <;> cases vRecs b.Claims <;> cases b.Claims.zipIdx.all (fun y => eqB y.1.Network b.Network) <;> rfl
theorem sIsValidBook_eq {b : TOperatorBook} (h : okTOperatorBook b) : sIsValidBook b = some (vBook b) := by
  have := h.2.1
  have hr := allk_rule (L := sIsValidBook_L1 b) b.Claims (fun _ x => eqB x.Network b.Network) (some (inR b.Network 0 3 && (vRecs b.Own && vRecs b.Claims))) (by omega)
    (fun k x hx hk => by
      simp only [sIsValidBook_L1, ltB_lt hk, ix_nat, hx, WR_succ (show k < 9223372036854775807 by omega), Option.bind_some, cond_true]
      cases eqB x.Network b.Network <;> rfl) (by
      simp only [sIsValidBook_L1, ltB_self, cond_false, sl1In_eq, sAreValidRecords_eq h.1.1, sAreValidRecords_eq h.2.1, Option.bind_some]
      cases inR b.Network 0 3 <;> cases vRecs b.Own <;> cases vRecs b.Claims <;> rfl)
  rw [sIsValidBook, hr, vBook]
  cases b.Claims.zipIdx.all (fun y => eqB y.1.Network b.Network) <;> rfl

theorem iMin_eq (a b : Int) : iMin a b = some (if b < a then b else a) := by unfold iMin ltB; by_cases h : b < a <;> simp [h]
theorem sMin_eq (a b : Int) : sMin a b = some (if b < a then b else a) := by unfold sMin ltB; by_cases h : b < a <;> simp [h]
def bookP (n : Int) (x : TOperatorBook) : Bool := eqB x.Network n
theorem iFindBook_eq {xs : List TOperatorBook} (hl : xs.length ≤ 1048576) (n : Int) : iFindBook xs n = some (idxF (bookP n) 0 xs) :=
  find_rule xs (bookP n) (by omega) (fun k x hx hk => by
    simp only [iFindBook_L1, ltB_lt hk, ix_nat, hx, WR_succ (show k < 9223372036854775807 by omega), bookP, Option.bind_some, cond_true]
    cases eqB x.Network n <;> rfl) (by simp [iFindBook_L1])
theorem sFindBook_eq {xs : List TOperatorBook} (hl : xs.length ≤ 1048576) (n : Int) : sFindBook xs n = some (idxF (bookP n) 0 xs) :=
  find_rule xs (bookP n) (by omega) (fun k x hx hk => by
    simp only [sFindBook_L1, ltB_lt hk, ix_nat, hx, WR_succ (show k < 9223372036854775807 by omega), bookP, Option.bind_some, cond_true]
    cases eqB x.Network n <;> rfl) (by simp [sFindBook_L1])
def vDeal (d : TRoamingAgreement) : Bool := inR d.Home 0 3 && (inR d.Visited 0 3 && (!eqB d.Home d.Visited && (inR d.Price 0 1000 && inR d.Cap 0 1000000000000)))
theorem iIsValidAgreement_eq (d : TRoamingAgreement) : iIsValidAgreement d = some (vDeal d) := by
  simp only [iIsValidAgreement, iInRange_eq, vDeal, Option.bind_some]
  cases inR d.Home 0 3 <;> cases inR d.Visited 0 3 <;> cases eqB d.Home d.Visited <;> cases inR d.Price 0 1000 <;> rfl
theorem sIsValidAgreement_eq (d : TRoamingAgreement) : sIsValidAgreement d = some (vDeal d) := by
  simp only [sIsValidAgreement, sl1In_eq, vDeal, Option.bind_some]
  cases inR d.Home 0 3 <;> cases inR d.Visited 0 3 <;> cases eqB d.Home d.Visited <;> cases inR d.Price 0 1000 <;> rfl
/-- What one told record adds. -/
def agB (own told : List TUsageRecord) (v : Int) (s : Int) (y : TUsageRecord × Nat) : Option (Step Int Int) :=
  bif eqB y.1.Network v && (eqB (idxF (recP y.1) 0 told) (y.2 : Int) && leB 0 (idxF (recP y.1) 0 own)) then
    Option.bind (ix own (idxF (recP y.1) 0 own)) fun x => some (.next (WR (s + (if x.Bytes < y.1.Bytes then x.Bytes else y.1.Bytes))))
  else some (.next s)
theorem min_comm' (a b : Int) : (if b < a then b else a) = (if a < b then a else b) := by split <;> split <;> omega
theorem iAgreedBytes_eq {own told : List TUsageRecord} (h1 : own.length ≤ 1048576) (h2 : told.length ≤ 1048576) (v : Int) : iAgreedBytes own told v = forL (agB own told v) some told.zipIdx 0 := by
  have := iter_for (step := iAgreedBytes_L1 own told v) told.zipIdx (fun k (s : Int) => (s, (k : Int))) (agB own told v) some (by simpa using (show told.length ≤ 9223372036854775806 by omega))
    (fun k y s hy hk => by
      have hk' : k < told.length := by simpa using hk
      have : y = (told[k], k) := by rw [List.getElem?_eq_getElem hk] at hy; simpa using hy.symm
      subst this
      simp only [iAgreedBytes_L1, ltB_lt hk', ix_nat, List.getElem?_eq_getElem hk', iFindRecord_eq h1, iFindRecord_eq h2, iMin_eq, WR_succ (show k < 9223372036854775807 by omega), agB, Option.bind_some, cond_true]
      cases eqB told[k].Network v <;> cases eqB (idxF (recP told[k]) 0 told) (k : Int) <;> cases leB 0 (idxF (recP told[k]) 0 own) <;> try rfl
      simp only [Bool.not_true, cond_false, cond_true, Bool.and_self, Option.bind_some]
      cases ix own (idxF (recP told[k]) 0 own) <;> rfl)
    (fun s => by rw [List.length_zipIdx]; simp [iAgreedBytes_L1]) 0
  rw [iAgreedBytes]
  refine Eq.trans ?_ this
  show Option.bind (iter (iAgreedBytes_L1 own told v) FU ((0 : Int), ((0 : Nat) : Int))) _ = _
  cases iter (iAgreedBytes_L1 own told v) FU ((0 : Int), ((0 : Nat) : Int)) <;> rfl
theorem sAgreedBytes_eq {own told : List TUsageRecord} (h1 : own.length ≤ 1048576) (h2 : told.length ≤ 1048576) (v : Int) : sAgreedBytes own told v = forL (agB own told v) some told.zipIdx 0 := by
  have := iter_for (step := sAgreedBytes_L1 own told v) told.zipIdx (fun k (s : Int) => (s, (k : Int))) (agB own told v) some (by simpa using (show told.length ≤ 9223372036854775806 by omega))
    (fun k y s hy hk => by
      have hk' : k < told.length := by simpa using hk
      have : y = (told[k], k) := by rw [List.getElem?_eq_getElem hk] at hy; simpa using hy.symm
      subst this
      simp only [sAgreedBytes_L1, ltB_lt hk', ix_nat, List.getElem?_eq_getElem hk', sFindRecord_eq h1, sFindRecord_eq h2, sMin_eq, WR_succ (show k < 9223372036854775807 by omega), agB, Option.bind_some, cond_true]
      cases eqB told[k].Network v <;> cases eqB (idxF (recP told[k]) 0 told) (k : Int) <;> cases leB 0 (idxF (recP told[k]) 0 own) <;> try rfl
      simp only [cond_true, Bool.and_self, Option.bind_some]
      cases ix own (idxF (recP told[k]) 0 own) with
      | none => rfl
      | some x => simp only [Option.bind_some, stepM_next]; rw [min_comm' x.Bytes told[k].Bytes])
    (fun s => by rw [List.length_zipIdx]; simp [sAgreedBytes_L1]) 0
  rw [sAgreedBytes]
  refine Eq.trans ?_ this
  show Option.bind (iter (sAgreedBytes_L1 own told v) FU ((0 : Int), ((0 : Nat) : Int))) _ = _
  cases iter (sAgreedBytes_L1 own told v) FU ((0 : Int), ((0 : Nat) : Int)) <;> rfl
theorem ag_some {own told : List TUsageRecord} (v : Int) : ∀ (l : List (TUsageRecord × Nat)) (s : Int), ∃ r, forL (agB own told v) some l s = some r
  | [], s => ⟨s, rfl⟩
  | y :: l, s => by
    rw [forL]
    unfold agB
    cases hc : eqB y.1.Network v && (eqB (idxF (recP y.1) 0 told) (y.2 : Int) && leB 0 (idxF (recP y.1) 0 own)) with
    | false => exact ag_some v l s
    | true =>
      simp only [Bool.and_eq_true] at hc
      obtain ⟨j, hj, x, hx, _⟩ : ∃ j : Nat, idxF (recP y.1) 0 own = (j : Int) ∧ ∃ x, own[j]? = some x ∧ True := by
        rcases idx_cases (recP y.1) own 0 with ⟨h1, _⟩ | ⟨j, h1, x, h2, _⟩
        · have := hc.2.2
          have h1' : idxF (recP y.1) 0 own = -1 := h1
          rw [h1'] at this; simp [leB] at this
        · exact ⟨j, by simpa using h1, x, h2, trivial⟩
      simp only [cond_true, hj, ix_nat, hx, Option.bind_some]
      exact ag_some v l _
theorem owed_eq {own told : List TUsageRecord} (h1 : own.length ≤ 1048576) (h2 : told.length ≤ 1048576) (d : TRoamingAgreement) : ∃ r, iAmountOwed d own told = some r ∧ sAmountOwed d own told = some r := by
  obtain ⟨r, hr⟩ := ag_some (own := own) (told := told) d.Visited told.zipIdx 0
  simp only [iAmountOwed, sAmountOwed, iIsValidAgreement_eq, sIsValidAgreement_eq, iAreValidRecords_eq h1, iAreValidRecords_eq h2, sAreValidRecords_eq h1, sAreValidRecords_eq h2, iAgreedBytes_eq h1 h2, sAgreedBytes_eq h1 h2, hr, iMin_eq, sMin_eq, Option.bind_some]
  cases vDeal d <;> cases vRecs own <;> cases vRecs told <;> exact ⟨_, rfl, rfl⟩
/-- A settlement's line, if there is one. -/
theorem line_eq {bs : List TOperatorBook} (h : okL okTOperatorBook bs) (d : TRoamingAgreement) : ∃ o : Option TStatementLine, ∀ s : List TStatementLine,
    (Option.bind (iFindBook bs d.Home) fun r17 => Option.bind (iFindBook bs d.Visited) fun r18 => Option.bind (bif ltB r17 0 then (some true) else (bif ltB r18 0 then (some true) else (Option.bind (ix bs r17) fun x20 => Option.bind (iIsValidBook x20) fun r21 => bif !r21 then (some true) else (Option.bind (ix bs r18) fun x22 => Option.bind (iIsValidBook x22) fun r23 => some (!r23))))) fun (v19 : Bool) => bif v19 then (some s) else (Option.bind (ix bs r17) fun x24 => Option.bind (ix bs r18) fun x25 => Option.bind (iAmountOwed d x24.Own x25.Claims) fun r26 => (bif ltB 0 r26 then (bif apOk 24 (s ++ [(⟨d.Home, d.Visited, r26⟩ : TStatementLine)]).length then (some (s ++ [(⟨d.Home, d.Visited, r26⟩ : TStatementLine)])) else none) else (some s)))) = (match o with | none => some s | some x => bif apOk 24 (s ++ [x]).length then some (s ++ [x]) else none) ∧
    (Option.bind (sFindBook bs d.Home) fun r17 => Option.bind (sFindBook bs d.Visited) fun r18 => Option.bind (bif ltB r17 0 then (some true) else (bif ltB r18 0 then (some true) else (Option.bind (ix bs r17) fun x20 => Option.bind (sIsValidBook x20) fun r21 => bif !r21 then (some true) else (Option.bind (ix bs r18) fun x22 => Option.bind (sIsValidBook x22) fun r23 => some (!r23))))) fun (v19 : Bool) => bif v19 then (some s) else (Option.bind (ix bs r17) fun x24 => Option.bind (ix bs r18) fun x25 => Option.bind (sAmountOwed d x24.Own x25.Claims) fun r26 => (bif ltB 0 r26 then (bif apOk 24 (s ++ [(⟨d.Home, d.Visited, r26⟩ : TStatementLine)]).length then (some (s ++ [(⟨d.Home, d.Visited, r26⟩ : TStatementLine)])) else none) else (some s)))) = (match o with | none => some s | some x => bif apOk 24 (s ++ [x]).length then some (s ++ [x]) else none) := by
  have hl := h.1
  simp only [iFindBook_eq hl, sFindBook_eq hl, Option.bind_some]
  rcases idx_cases (bookP d.Home) bs 0 with ⟨h1, _⟩ | ⟨j, h1, x, h2, _⟩
  · have h1' : idxF (bookP d.Home) 0 bs = -1 := h1
    rw [h1']
    have hneg : ltB (-1) 0 = true := lt0_t (by omega)
    refine ⟨none, fun s => ?_⟩
    simp only [hneg, cond_true, Option.bind_some]
    exact ⟨trivial, trivial⟩
  have e1 : idxF (bookP d.Home) 0 bs = (j : Int) := by simpa using h1
  rcases idx_cases (bookP d.Visited) bs 0 with ⟨g1, _⟩ | ⟨i, g1, y, g2, _⟩
  · have g1' : idxF (bookP d.Visited) 0 bs = -1 := g1
    rw [g1', e1]
    have hj : ltB (j : Int) 0 = false := lt0_f (by omega)
    have hneg : ltB (-1) 0 = true := lt0_t (by omega)
    refine ⟨none, fun s => ?_⟩
    simp only [hj, hneg, cond_true, cond_false, Option.bind_some]
    exact ⟨trivial, trivial⟩
  have e2 : idxF (bookP d.Visited) 0 bs = (i : Int) := by simpa using g1
  rw [e1, e2]
  have hj : ltB (j : Int) 0 = false := lt0_f (by omega)
  have hi : ltB (i : Int) 0 = false := lt0_f (by omega)
  have okx := h.2 x (List.mem_of_getElem? h2)
  have oky := h.2 y (List.mem_of_getElem? g2)
  obtain ⟨r, q1, q2⟩ := owed_eq (own := x.Own) (told := y.Claims) okx.1.1 oky.2.1 d
  simp only [hj, hi, cond_false, ix_nat, h2, g2, Option.bind_some, iIsValidBook_eq okx, iIsValidBook_eq oky, sIsValidBook_eq okx, sIsValidBook_eq oky, q1, q2]
  cases vBook x
  · exact ⟨none, fun s => ⟨rfl, rfl⟩⟩
  cases vBook y
  · exact ⟨none, fun s => ⟨rfl, rfl⟩⟩
  cases ltB 0 r
  · exact ⟨none, fun s => ⟨rfl, rfl⟩⟩
  · exact ⟨some ⟨d.Home, d.Visited, r⟩, fun s => ⟨rfl, rfl⟩⟩
theorem bind_next {α σ ρ : Type} (o : Option α) (f : α → σ) : (Option.bind o fun a => some (Step.next (ρ := ρ) (f a))) = Option.bind (o.map f) fun b => some (.next b) := by cases o <;> rfl
theorem settle_eq {bs : List TOperatorBook} (h : okL okTOperatorBook bs) {ds : List TRoamingAgreement} (hd : ds.length ≤ 1048576) : ∃ r, iSettlement bs ds = some r ∧ sSettlement bs ds = some r ∧ r.length ≤ 12 := by
  have key : ∀ (m n k : Nat) (s : List TStatementLine), m = ds.length - k → k ≤ ds.length → m < n → s.length ≤ 12 → ∃ r, iter (iSettlement_L1 bs ds) n ((k : Int), s) = some r ∧ iter (sSettlement_L1 bs ds) n ((k : Int), s) = some r ∧ r.length ≤ 12 := by
    intro m
    induction m with
    | zero =>
      intro n k s hm hk hn hs
      cases n with
      | zero => omega
      | succ n =>
        have : k = ds.length := by omega
        subst this
        refine ⟨s, ?_, ?_, hs⟩
        · rw [iter]; simp [iSettlement_L1]
        · rw [iter]; simp [sSettlement_L1]
    | succ m ih =>
      intro n k s hm hk hn hs
      cases n with
      | zero => omega
      | succ n =>
        have hlt : k < ds.length := by omega
        by_cases h12 : 12 ≤ s.length
        · have e1 : leB 12 ((s.length : Nat) : Int) = true := by simp [leB]; omega
          have e2 : ltB ((s.length : Nat) : Int) 12 = false := by simp [ltB]; omega
          refine ⟨s, ?_, ?_, hs⟩
          · rw [iter]; simp [iSettlement_L1, ltB_lt hlt, List.getElem?_eq_getElem hlt, e1]
          · rw [iter]; simp [sSettlement_L1, ltB_lt hlt, e2]
        · have e1 : leB 12 ((s.length : Nat) : Int) = false := by simp [leB]; omega
          have e2 : ltB ((s.length : Nat) : Int) 12 = true := by simp [ltB]; omega
          obtain ⟨o, ho⟩ := line_eq h ds[k]
          obtain ⟨o1, o2⟩ := ho s
          have hw := WR_succ (show k < 9223372036854775807 by omega)
          have p1 : iSettlement_L1 bs ds ((k : Int), s) = (match o with | none => some s | some x => bif apOk 24 (s ++ [x]).length then some (s ++ [x]) else none).map (fun v => Step.next (((k + 1 : Nat) : Int), v)) := by
            rw [← o1]
            simp only [iSettlement_L1, ltB_lt hlt, ix_nat, List.getElem?_eq_getElem hlt, e1, hw, Option.bind_some, cond_true, cond_false]
            cases iFindBook bs ds[k].Home with
            | none => rfl
            | some r17 =>
            cases iFindBook bs ds[k].Visited with
            | none => rfl
            | some r18 =>
            simp only [Option.bind_some]
            cases (bif ltB r17 0 then some true else bif ltB r18 0 then some true else (ix bs r17).bind fun x20 => (iIsValidBook x20).bind fun r21 => bif !r21 then some true else (ix bs r18).bind fun x22 => (iIsValidBook x22).bind fun r23 => some !r23) with
            | none => rfl
            | some v19 =>
              cases v19
              · simp only [Option.bind_some, cond_false]
                cases ix bs r17 with
                | none => rfl
                | some x24 =>
                cases ix bs r18 with
                | none => rfl
                | some x25 =>
                simp only [Option.bind_some]
                cases iAmountOwed ds[k] x24.Own x25.Claims with
                | none => rfl
                | some r26 =>
                  simp only [Option.bind_some]
                  cases ltB 0 r26 <;> simp only [cond_true, cond_false, Option.bind_some, Option.map_some]
                  cases apOk 24 (s ++ [(⟨ds[k].Home, ds[k].Visited, r26⟩ : TStatementLine)]).length <;> rfl
              · rfl
          have p2 : sSettlement_L1 bs ds ((k : Int), s) = (match o with | none => some s | some x => bif apOk 24 (s ++ [x]).length then some (s ++ [x]) else none).map (fun v => Step.next (((k + 1 : Nat) : Int), v)) := by
            rw [← o2]
            simp only [sSettlement_L1, ltB_lt hlt, ix_nat, List.getElem?_eq_getElem hlt, e2, hw, Option.bind_some, cond_true, cond_false]
            cases sFindBook bs ds[k].Home with
            | none => rfl
            | some r17 =>
            cases sFindBook bs ds[k].Visited with
            | none => rfl
            | some r18 =>
            simp only [Option.bind_some]
            cases (bif ltB r17 0 then some true else bif ltB r18 0 then some true else (ix bs r17).bind fun x20 => (sIsValidBook x20).bind fun r21 => bif !r21 then some true else (ix bs r18).bind fun x22 => (sIsValidBook x22).bind fun r23 => some !r23) with
            | none => rfl
            | some v19 =>
              cases v19
              · simp only [Option.bind_some, cond_false]
                cases ix bs r17 with
                | none => rfl
                | some x24 =>
                cases ix bs r18 with
                | none => rfl
                | some x25 =>
                simp only [Option.bind_some]
                cases sAmountOwed ds[k] x24.Own x25.Claims with
                | none => rfl
                | some r26 =>
                  simp only [Option.bind_some]
                  cases ltB 0 r26 <;> simp only [cond_true, cond_false, Option.bind_some, Option.map_some]
                  cases apOk 24 (s ++ [(⟨ds[k].Home, ds[k].Visited, r26⟩ : TStatementLine)]).length <;> rfl
              · rfl
          rw [iter, iter, p1, p2]
          cases o with
          | none => exact ih n (k + 1) s (by omega) (by omega) (by omega) hs
          | some x =>
            have ha : apOk 24 (s ++ [x]).length = true := apOk_small (by omega) (by simp; omega)
            simp only [ha, cond_true, Option.map_some]
            exact ih n (k + 1) (s ++ [x]) (by omega) (by omega) (by omega) (by simp; omega)
  obtain ⟨r, h1, h2, h3⟩ := key ds.length FU 0 [] (by omega) (by omega) (by have := FU_big; omega) (by simp)
  refine ⟨r, ?_, ?_, h3⟩
  · rw [iSettlement]; show Option.bind (iter (iSettlement_L1 bs ds) FU (((0 : Nat) : Int), [])) _ = _; rw [h1]; rfl
  · rw [sSettlement]; show Option.bind (iter (sSettlement_L1 bs ds) FU (((0 : Nat) : Int), [])) _ = _; rw [h2]; rfl
theorem lFnExactSettlement_ok (bs : List TOperatorBook) (hp : preL preTOperatorBook bs) (ds : List TRoamingAgreement) (hq : preL (fun _ => True) ds) : lFnExactSettlement bs ds = some true := by
  unfold lFnExactSettlement
  obtain ⟨r1, a1, b1, c1⟩ := psz_OperatorBookS bs 1048576 hp (by omega) (by omega)
  rcases c1 with ⟨c1, rfl⟩ | ⟨c1, d1, e1⟩
  · simp [a1, c1]
  obtain ⟨r2, a2, b2, c2⟩ := psz_RoamingAgreementS ds r1 hq (by omega) (by omega)
  rcases c2 with ⟨c2, rfl⟩ | ⟨c2, d2, e2⟩
  · simp [a1, c1, a2, c2]
  obtain ⟨r, h1, h2, h3⟩ := settle_eq e1 e2.1
  have hr : okL (fun _ => True) r := ⟨by omega, fun _ _ => trivial⟩
  obtain ⟨k', z1, z2, z3⟩ := pz_OperatorBookS bs 1 e1 (by omega) (by omega)
  obtain ⟨k2, y1, y2, y3⟩ := pz_RoamingAgreementS ds k' e2 (by omega) (by omega)
  have hz : ltB k2 0 = false := lt0_f (by omega)
  have hm2 : ltB (1 + (3 : Int) * (r.length : Int)) 0 = false := lt0_f (by omega)
  have hle : lenEq (marks gStatementLineS 3 r.length 1) r = true := by simp [lenEq, marks_len]
  simp only [a1, c1, a2, c2, pto_OperatorBookS bs e1, pto_RoamingAgreementS ds e2, h1, h2, peq_StatementLineS r hr, peq_OperatorBookS bs e1, peq_RoamingAgreementS ds e2, z1, y1, hz, pmark_StatementLineS r (by omega), pheld_StatementLineS r.length (by omega), hle, hm2, eqB_refl, Option.bind_some, cond_true, cond_false, Bool.not_true]
theorem fnExactSettlement_fn (x0 : D) (h0 : WT (.l [.i .i64, .l [.i .i64, .i .i64, .i .i64, .i .i64], .l [.i .i64, .i .i64, .i .i64, .i .i64]]) x0) (x1 : D) (h1 : WT (.l [.i .i64, .i .i64, .i .i64, .i .i64]) x1) : Fn Try.prog 9 [.c x0, .c x1] [rB true] := by
  obtain ⟨y0, rfl, l0, w0⟩ := h0.gl
  obtain ⟨a0, rfl, p0⟩ := WTL_map (f := eTOperatorBook) (p := preTOperatorBook) (fun _ h => wtTOperatorBook h) w0
  obtain ⟨y1, rfl, l1, w1⟩ := h1.gl
  obtain ⟨a1, rfl, p1⟩ := WTL_map (f := eTRoamingAgreement) (p := fun _ => True) (fun _ h => wtTRoamingAgreement h) w1
  exact lFnExactSettlement_c (lFnExactSettlement_ok a0 ⟨by simpa using l0, p0⟩ a1 ⟨by simpa using l1, p1⟩)
end Go.AM
