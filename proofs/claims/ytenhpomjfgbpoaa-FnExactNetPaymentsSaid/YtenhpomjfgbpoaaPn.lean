/-
  Own text: a part of the abstract machine for this seat (Pn). No statement is proved here.
-/
import Derived.Test.YtenhpomjfgbpoaaGnl
import Derived.Test.YtenhpomjfgbpoaaPnm
set_option linter.unusedVariables false
set_option linter.unusedSimpArgs false
namespace Go.AM
open Go.Proofs
attribute [local simp] ltB_self eqB_refl ix_nat
def amtB (a b : Int) (s : Int) (x : TStatementLine) : Option (Step Int Int) := some (.next (bif eqB x.Payer a && eqB x.Payee b then WR (s + x.Amount) else s))
theorem iamt_eq {xs : List TStatementLine} (h : xs.length ≤ 1048576) (a b : Int) : iamountPaid xs a b = forL (amtB a b) some xs 0 := by
  have := iter_for (step := iamountPaid_L1 xs a b) xs (fun k (s : Int) => (s, (k : Int))) (amtB a b) some (by omega)
    (fun k x s hx hk => by
      simp only [iamountPaid_L1, ltB_lt hk, ix_nat, hx, WR_succ (show k < 9223372036854775807 by omega), amtB, Option.bind_some, cond_true]
      cases eqB x.Payer a <;> cases eqB x.Payee b <;> rfl) (fun s => by simp [iamountPaid_L1]) 0
  rw [iamountPaid, show iter (iamountPaid_L1 xs a b) FU (0, 0) = _ from this]
  cases forL (amtB a b) some xs 0 <;> rfl
theorem samt_eq {xs : List TStatementLine} (h : xs.length ≤ 1048576) (a b : Int) : sl38Between xs a b = forL (amtB a b) some xs 0 := by
  have := iter_for (step := sl38Between_L1 xs a b) xs (fun k (s : Int) => (s, (k : Int))) (amtB a b) some (by omega)
    (fun k x s hx hk => by
      simp only [sl38Between_L1, ltB_lt hk, ix_nat, hx, WR_succ (show k < 9223372036854775807 by omega), amtB, Option.bind_some, cond_true]
      cases eqB x.Payer a <;> cases eqB x.Payee b <;> rfl) (fun s => by simp [sl38Between_L1]) 0
  rw [sl38Between, show iter (sl38Between_L1 xs a b) FU (0, 0) = _ from this]
  cases forL (amtB a b) some xs 0 <;> rfl
theorem amt_some (a b : Int) : ∀ (xs : List TStatementLine) (s : Int), ∃ r, forL (amtB a b) some xs s = some r
  | [], s => ⟨s, rfl⟩
  | x :: xs, s => by rw [forL]; exact amt_some a b xs _
theorem L2_eq {xs : List TStatementLine} (h : xs.length ≤ 1048576) (v : Int) : sNetPayments_L2 xs v = iNetPayments_L2 xs v := by
  funext p; obtain ⟨p, q⟩ := p
  simp only [sNetPayments_L2, iNetPayments_L2, iamt_eq h, samt_eq h]
theorem net_eq {xs : List TStatementLine} (h : xs.length ≤ 1048576) : sNetPayments xs = iNetPayments xs := by
  have : sNetPayments_L1 xs = iNetPayments_L1 xs := by
    funext p; obtain ⟨p, q⟩ := p
    simp only [sNetPayments_L1, iNetPayments_L1, L2_eq h]
  rw [sNetPayments, iNetPayments, this]
def netB (xs : List TStatementLine) (k : Nat) (s : List TStatementLine) (j : Nat) : Option (Step (List TStatementLine) (List TStatementLine)) :=
  Option.bind (iamountPaid xs k j) fun r22 => Option.bind (iamountPaid xs j k) fun r23 => bif ltB 0 (WR (r22 - r23)) then (bif apOk 24 (s ++ [(⟨k, j, WR (r22 - r23)⟩ : TStatementLine)]).length then some (.next (s ++ [(⟨k, j, WR (r22 - r23)⟩ : TStatementLine)])) else none) else bif ltB (WR (r22 - r23)) 0 then (bif apOk 24 (s ++ [(⟨j, k, WR (0 - (WR (r22 - r23)))⟩ : TStatementLine)]).length then some (.next (s ++ [(⟨j, k, WR (0 - (WR (r22 - r23)))⟩ : TStatementLine)])) else none) else some (.next s)
theorem L2_some {xs : List TStatementLine} (h : xs.length ≤ 1048576) (k : Nat) (hk : k < 4) (acc : List TStatementLine) (ha : acc.length ≤ 100) : ∃ r, iter (iNetPayments_L2 xs (k : Int)) FU (WR ((k : Int) + 1), acc) = some r ∧ r.length ≤ acc.length + 3 := by
  rw [WR_succ (by omega)]
  have := iter_cnt (step := iNetPayments_L2 xs (k : Int)) (k + 1) 4 (by omega) (by omega) (fun j (s : List TStatementLine) => ((j : Int), s))
    (netB xs k) some
    (fun j s h1 h2 => by
      obtain ⟨r1, e1⟩ := amt_some k j xs 0
      obtain ⟨r2, e2⟩ := amt_some j k xs 0
      have h4 : ltB (j : Int) 4 = true := ltB_lt (a := j) (b := 4) h2
      simp only [iNetPayments_L2, netB, h4, iamt_eq h, e1, e2, Option.bind_some, cond_true, WR_succ (show j < 9223372036854775807 by omega)]
      cases ltB 0 (WR (r1 - r2)) <;> cases ltB (WR (r1 - r2)) 0 <;> cases apOk 24 (s ++ [(⟨k, j, WR (r1 - r2)⟩ : TStatementLine)]).length <;> cases apOk 24 (s ++ [(⟨j, k, WR (0 - (WR (r1 - r2)))⟩ : TStatementLine)]).length <;> rfl)
    (fun s => by simp [iNetPayments_L2, show ltB (4 : Int) 4 = false from ltB_self 4]) acc
  obtain ⟨r, h1, h2⟩ := forL_grow (m := 1000) (body := netB xs k) (fun s j hs => by
      obtain ⟨r1, e1⟩ := amt_some k j xs 0
      obtain ⟨r2, e2⟩ := amt_some j k xs 0
      simp only [netB, iamt_eq h, e1, e2, Option.bind_some]
      have a1 : ∀ z : TStatementLine, apOk 24 (s ++ [z]).length = true := fun z => apOk_small (by decide) (by simp; omega)
      simp only [a1, cond_true]
      cases ltB 0 (WR (r1 - r2)) <;> cases ltB (WR (r1 - r2)) 0 <;> simp) (List.range' (k + 1) (4 - (k + 1))) acc (by simp; omega)
  exact ⟨r, this.trans h1, by simp at h2; omega⟩
theorem net_some {xs : List TStatementLine} (h : xs.length ≤ 1048576) : ∃ r, iNetPayments xs = some r ∧ r.length ≤ 100 := by
  have := iter_cnt (step := iNetPayments_L1 xs) 0 4 (by omega) (by omega) (fun j (s : List TStatementLine) => ((j : Int), s))
    (fun s j => Option.bind (iter (iNetPayments_L2 xs (j : Int)) FU (WR ((j : Int) + 1), s)) fun v => some (.next v)) some
    (fun j s h1 h2 => by
      have h4 : ltB (j : Int) 4 = true := ltB_lt (a := j) (b := 4) h2
      simp [iNetPayments_L1, h4, WR_succ (show j < 9223372036854775807 by omega)])
    (fun s => by simp [iNetPayments_L1, show ltB (4 : Int) 4 = false from ltB_self 4]) []
  obtain ⟨r0, a0, b0⟩ := L2_some h 0 (by omega) [] (by simp)
  obtain ⟨r1, a1, b1⟩ := L2_some h 1 (by omega) r0 (by simp at b0; omega)
  obtain ⟨r2, a2, b2⟩ := L2_some h 2 (by omega) r1 (by simp at b0; omega)
  obtain ⟨r3, a3, b3⟩ := L2_some h 3 (by omega) r2 (by simp at b0; omega)
  refine ⟨r3, ?_, by simp at b0; omega⟩
  rw [iNetPayments, show iter (iNetPayments_L1 xs) FU (0, []) = _ from this]
  simp only [List.range', forL, a0, a1, a2, a3, Option.bind_some]
theorem lFnExactNetPayments_ok (xs : List TStatementLine) (hp : preL (fun _ => True) xs) : lFnExactNetPayments xs = some true := by
  unfold lFnExactNetPayments
  obtain ⟨r1, a1, b1, c1⟩ := psz_StatementLineS xs 1048576 hp (by omega) (by omega)
  rcases c1 with ⟨c1, rfl⟩ | ⟨c1, d1, e1⟩
  · simp [a1, c1]
  have hl := e1.1
  obtain ⟨r, hi, h2⟩ := net_some hl
  have hs := (net_eq hl).trans hi
  have hr : okL (fun _ => True) r := ⟨by omega, fun _ _ => trivial⟩
  have hm1 : ltB (1 + (3 : Int) * (xs.length : Int)) 0 = false := lt0_f (by omega)
  have hm2 : ltB (1 + (3 : Int) * (r.length : Int)) 0 = false := lt0_f (by omega)
  simp [a1, c1, pto_StatementLineS xs e1, hi, hs, peq_StatementLineS r hr, peq_StatementLineS xs e1, pmark_StatementLineS xs hl, pmark_StatementLineS r (by omega), pheld_StatementLineS r.length (by omega), lenEq, marks_len, hm1, hm2]
theorem fnExactNetPayments_fn (x0 : D) (h0 : WT (.l [.i .i64, .i .i64, .i .i64]) x0) : Fn Try.prog 12 [.c x0] [rB true] := by
  obtain ⟨y0, rfl, l0, w0⟩ := h0.gl
  obtain ⟨a0, rfl, p0⟩ := WTL_map (f := eTStatementLine) (p := fun _ => True) (fun _ h => wtTStatementLine h) w0
  exact lFnExactNetPayments_c (lFnExactNetPayments_ok a0 ⟨by simpa using l0, p0⟩)
end Go.AM
