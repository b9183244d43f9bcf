/-
  Own text: a part of the abstract machine for this seat (Pe). No statement is proved here.
-/
import Derived.Test.YtlmhnjhknfcpgaaGcl
import Derived.Test.YtlmhnjhknfcpgaaPcm
set_option linter.unusedVariables false
set_option linter.unusedSimpArgs false
namespace Go.AM
open Go.Proofs
attribute [local simp] ltB_self eqB_refl ix_nat
def inR (n a b : Int) : Bool := leB a n && leB n b
theorem iInRange_eq (n a b : Int) : iInRange n a b = some (inR n a b) := by unfold iInRange inR; cases leB a n <;> rfl
theorem sl1In_eq (n a b : Int) : sl1In n a b = some (inR n a b) := by unfold sl1In inR; cases leB a n <;> rfl
def vRec (r : TUsageRecord) : Bool := inR r.Network 0 3 && (leB 0 r.SessionID && (inR r.Seq 1 100000 && inR r.Bytes 0 100000))
theorem iIsValidRecord_eq (r : TUsageRecord) : iIsValidRecord r = some (vRec r) := by
  simp only [iIsValidRecord, iInRange_eq, vRec, Option.bind_some]; cases inR r.Network 0 3 <;> cases leB 0 r.SessionID <;> cases inR r.Seq 1 100000 <;> rfl
theorem sIsValidRecord_eq (r : TUsageRecord) : sIsValidRecord r = some (vRec r) := by
  simp only [sIsValidRecord, sl1In_eq, vRec, Option.bind_some]; cases inR r.Network 0 3 <;> cases leB 0 r.SessionID <;> cases inR r.Seq 1 100000 <;> rfl
def recP (r x : TUsageRecord) : Bool := eqB x.Network r.Network && (eqB x.SessionID r.SessionID && eqB x.Seq r.Seq)
theorem iFindRecord_eq {xs : List TUsageRecord} (hl : xs.length ≤ 1048576) (r : TUsageRecord) : iFindRecord xs r = some (idxF (recP r) 0 xs) :=
  find_rule xs (recP r) (by omega) (fun k x hx hk => by
    simp only [iFindRecord_L1, isameRecord, ltB_lt hk, ix_nat, hx, WR_succ (show k < 9223372036854775807 by omega), recP, Option.bind_some, cond_true]
    cases eqB x.Network r.Network <;> cases eqB x.SessionID r.SessionID <;> cases eqB x.Seq r.Seq <;> rfl) (by simp [iFindRecord_L1])
theorem sFindRecord_eq {xs : List TUsageRecord} (hl : xs.length ≤ 1048576) (r : TUsageRecord) : sFindRecord xs r = some (idxF (recP r) 0 xs) :=
  find_rule xs (recP r) (by omega) (fun k x hx hk => by
    simp only [sFindRecord_L1, ltB_lt hk, ix_nat, hx, WR_succ (show k < 9223372036854775807 by omega), recP, Option.bind_some, cond_true]
    cases eqB x.Network r.Network <;> cases eqB x.SessionID r.SessionID <;> cases eqB x.Seq r.Seq <;> rfl) (by simp [sFindRecord_L1])
theorem recP_refl (r : TUsageRecord) : recP r r = true := by simp [recP]
/-- The first place of a record is its own just where no earlier one is like it. -/
theorem first_iff {xs : List TUsageRecord} {k : Nat} {x : TUsageRecord} (hx : xs[k]? = some x) : (!eqB (idxF (recP x) 0 xs) (k : Int)) = leB 0 (idxF (recP x) 0 (xs.take k)) := by
  have hk := (List.getElem?_eq_some_iff.1 hx).1
  rw [idx_nonneg (by omega)]
  rcases idx_cases (recP x) xs 0 with ⟨h1, h2⟩ | ⟨j, h1, y, h2, h3, h4⟩
  · have := h2 x (List.mem_of_getElem? hx); rw [recP_refl] at this; cases this
  · have h1' : idxF (recP x) 0 xs = (j : Int) := by simpa using h1
    rw [h1']
    by_cases hjk : j = k
    · subst hjk
      rw [eqB_refl]
      symm
      rw [Bool.not_true, Bool.eq_false_iff]
      intro ha
      obtain ⟨z, hz1, hz2⟩ := List.any_eq_true.1 ha
      rw [h4 z hz1] at hz2; cases hz2
    · have hlt : j < k := by
        rcases Nat.lt_or_gt_of_ne hjk with h | h
        · exact h
        · have : x ∈ xs.take j := List.mem_of_getElem? (i := k) (by rw [List.getElem?_take, if_pos h]; exact hx)
          have := h4 x this; rw [recP_refl] at this; cases this
      rw [show eqB (j : Int) (k : Int) = false from by simp [eqB]; omega]
      symm
      rw [Bool.not_false, List.any_eq_true]
      exact ⟨y, List.mem_of_getElem? (i := j) (by rw [List.getElem?_take, if_pos hlt]; exact h2), h3⟩
/-- Over the elements, all must be so; then the answer is c. -/
theorem allk_rule {α : Type} {L : Int → Option (Step Int Bool)} (xs : List α) (p : Nat → α → Bool) (c : Option Bool) (hl : xs.length ≤ 9223372036854775806)
    (hs : ∀ (k : Nat) (x : α), xs[k]? = some x → k < xs.length → L (k : Int) = bif p k x then some (.next ((k + 1 : Nat) : Int)) else some (.done false)) (he : L ((xs.length : Nat) : Int) = dn c) :
    iter L FU 0 = bif xs.zipIdx.all (fun y => p y.2 y.1) then c else some false := by
  have := iter_for (step := L) xs.zipIdx (fun k (_ : Unit) => (k : Int)) (fun _ y => bif p y.2 y.1 then some (.next ()) else some (.done false)) (fun _ => c) (by simpa using hl)
    (fun k y s hy hk => by
      have hk' : k < xs.length := by simpa using hk
      have : y = (xs[k], k) := by rw [List.getElem?_eq_getElem hk] at hy; simpa using hy.symm
      subst this
      rw [hs k xs[k] (List.getElem?_eq_getElem hk') hk']; cases p k xs[k] <;> rfl) (fun s => by rw [List.length_zipIdx, he]) ()
  refine Eq.trans (show iter L FU 0 = _ from this) ?_
  have key : ∀ ys : List (α × Nat), forL (fun (_ : Unit) y => bif p y.2 y.1 then some (.next ()) else some (Step.done false)) (fun _ => c) ys () = bif ys.all (fun y => p y.2 y.1) then c else some false := by
    intro ys
    induction ys with
    | nil => rfl
    | cons x xs ih => rw [forL]; cases hp : p x.2 x.1 <;> simp [hp, ih]
  exact key _
def vRecs (xs : List TUsageRecord) : Bool := leB ((xs.length : Nat) : Int) 24 && xs.zipIdx.all (fun y => vRec y.1 && eqB (idxF (recP y.1) 0 xs) (y.2 : Int))
theorem leB_not (a b : Int) : ltB a b = !leB b a := by
  by_cases h : a < b
  · rw [show ltB a b = true from by simp [ltB, h], show leB b a = false from by simp [leB]; omega]; rfl
  · rw [show ltB a b = false from by simp [ltB]; omega, show leB b a = true from by simp [leB]; omega]; rfl
theorem iAreValidRecords_eq {xs : List TUsageRecord} (hl : xs.length ≤ 1048576) : iAreValidRecords xs = some (vRecs xs) := by
  have := allk_rule (L := iAreValidRecords_L1 xs) xs (fun k x => vRec x && eqB (idxF (recP x) 0 xs) (k : Int)) (some true) (by omega)
    (fun k x hx hk => by
      simp only [iAreValidRecords_L1, ltB_lt hk, ix_nat, hx, iIsValidRecord_eq, iFindRecord_eq hl, WR_succ (show k < 9223372036854775807 by omega), Option.bind_some, cond_true]
      cases vRec x <;> cases eqB (idxF (recP x) 0 xs) (k : Int) <;> rfl) (by simp [iAreValidRecords_L1])
  unfold iAreValidRecords vRecs
  rw [this, leB_not]
  cases leB ((xs.length : Nat) : Int) 24 <;> cases xs.zipIdx.all (fun y => vRec y.1 && eqB (idxF (recP y.1) 0 xs) (y.2 : Int)) <;> rfl
theorem sAreValidRecords_eq {xs : List TUsageRecord} (hl : xs.length ≤ 1048576) : sAreValidRecords xs = some (vRecs xs) := by
  have := allk_rule (L := sAreValidRecords_L1 xs) xs (fun k x => vRec x && eqB (idxF (recP x) 0 xs) (k : Int)) (some (leB ((xs.length : Nat) : Int) 24)) (by omega)
    (fun k x hx hk => by
      have hf := first_iff hx
      have hsl : slOk xs 0 (k : Int) = true := by simp [slOk]; omega
      simp only [sAreValidRecords_L1, ltB_lt hk, ix_nat, hx, sIsValidRecord_eq, hsl, sFindRecord_eq (xs := xs.take k) (by simp; omega), Int.toNat_natCast, WR_succ (show k < 9223372036854775807 by omega), Option.bind_some, cond_true, ← hf]
      cases vRec x <;> cases eqB (idxF (recP x) 0 xs) (k : Int) <;> rfl) (by simp [sAreValidRecords_L1])
  unfold sAreValidRecords vRecs
  rw [this]
  cases leB ((xs.length : Nat) : Int) 24 <;> cases xs.zipIdx.all (fun y => vRec y.1 && eqB (idxF (recP y.1) 0 xs) (y.2 : Int)) <;> rfl
def vBook (b : TOperatorBook) : Bool := b.Claims.zipIdx.all (fun y => eqB y.1.Network b.Network) && (inR b.Network 0 3 && (vRecs b.Own && vRecs b.Claims))
theorem iIsValidBook_eq {b : TOperatorBook} (h : okTOperatorBook b) : iIsValidBook b = some (vBook b) := by
  have := h.2.1
  have hr := allk_rule (L := iIsValidBook_L1 b) b.Claims (fun _ x => eqB x.Network b.Network) (some true) (by omega)
    (fun k x hx hk => by
      simp only [iIsValidBook_L1, ltB_lt hk, ix_nat, hx, WR_succ (show k < 9223372036854775807 by omega), Option.bind_some, cond_true]
      cases eqB x.Network b.Network <;> rfl) (by simp [iIsValidBook_L1])
  simp only [iIsValidBook, iInRange_eq, iAreValidRecords_eq h.1.1, iAreValidRecords_eq h.2.1, hr, vBook, Option.bind_some]
  cases inR b.Network 0 3 <;> cases vRecs b.Own <;> cases vRecs b.Claims <;> cases b.Claims.zipIdx.all (fun y => eqB y.1.Network b.Network) <;> rfl
theorem sIsValidBook_eq {b : TOperatorBook} (h : okTOperatorBook b) : sIsValidBook b = some (vBook b) := by
  have := h.2.1
  have hr := allk_rule (L := sIsValidBook_L1 b) b.Claims (fun _ x => eqB x.Network b.Network) (some (inR b.Network 0 3 && (vRecs b.Own && vRecs b.Claims))) (by omega)
    (fun k x hx hk => by
      simp only [sIsValidBook_L1, ltB_lt hk, ix_nat, hx, WR_succ (show k < 9223372036854775807 by omega), Option.bind_some, cond_true]
      cases eqB x.Network b.Network <;> rfl) (by
      simp only [sIsValidBook_L1, ltB_self, cond_false, sl1In_eq, sAreValidRecords_eq h.1.1, sAreValidRecords_eq h.2.1, Option.bind_some]
      cases inR b.Network 0 3 <;> cases vRecs b.Own <;> cases vRecs b.Claims <;> rfl)
  rw [sIsValidBook, hr, vBook]
  cases b.Claims.zipIdx.all (fun y => eqB y.1.Network b.Network) <;> rfl
theorem lFnExactIsValidBook_ok (b : TOperatorBook) (hp : preTOperatorBook b) : lFnExactIsValidBook b = some true := by
  unfold lFnExactIsValidBook
  obtain ⟨r1, a1, b1, c1⟩ := psz_OperatorBook b 1048576 hp (by omega) (by omega)
  rcases c1 with ⟨c1, rfl⟩ | ⟨c1, d1, e1⟩
  · simp [a1, c1]
  have hb : ∀ b : Bool, booB b b = true := fun b => by simp
  simp only [a1, c1, pto_OperatorBook b e1, iIsValidBook_eq e1, sIsValidBook_eq e1, hb, peq_OperatorBook b e1, Option.bind_some, cond_false, Bool.not_true]
theorem fnExactIsValidBook_fn (x0 : List D) (h0 : WTs [.i .i64, .l [.i .i64, .i .i64, .i .i64, .i .i64], .l [.i .i64, .i .i64, .i .i64, .i .i64]] x0) : Fn Try.prog 5 [.agg x0] [rB true] := by
  obtain ⟨a0, rfl, p0⟩ := wtTOperatorBook h0
  exact lFnExactIsValidBook_c (lFnExactIsValidBook_ok a0 p0)
end Go.AM
