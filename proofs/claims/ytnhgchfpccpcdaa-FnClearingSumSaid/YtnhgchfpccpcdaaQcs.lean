/-
  Own text: a part of the abstract machine for this seat (Qcs). No statement is proved here.
-/
import Derived.Test.YtnhgchfpccpcdaaHal
import Derived.Test.YtnhgchfpccpcdaaQam
import Derived.Test.YtnhgchfpccpcdaaQd
set_option linter.unusedVariables false
set_option linter.unusedSimpArgs false
namespace Go.AM
open Go.Proofs
attribute [local simp] ltB_self eqB_refl ix_nat
abbrev SL := TStatementLine
/-- Lines that are small. -/
def smallL (m : Nat) (l : List SL) : Prop := l.length ≤ m ∧ ∀ x ∈ l, 0 ≤ x.Amount ∧ x.Amount ≤ 1000
theorem lines_run : ∀ (n : Nat) (k : Nat) (c : Tl1Cur) (l : List SL), k < n → curOK c → smallL (100 - k) l → k ≤ 50 → (∀ x ∈ l, 0 ≤ x.Payee ∧ x.Payee < 4) → ∃ b i h l', iter sl38Lines_L1 n ((k : Int), c.fb, c.fi, c.fh, l) = some (b, i, h, l') ∧ curOK ⟨b, i, h⟩ ∧ l'.length ≤ l.length + k ∧ (∀ x ∈ l', 0 ≤ x.Amount ∧ x.Amount ≤ 1000)
  | 0, k, c, l, h, _, _, _, _ => by omega
  | n + 1, 0, c, l, h, hc, hl, _, _ => ⟨c.fb, c.fi, c.fh, l, by rw [iter]; simp [sl38Lines_L1], hc, by omega, hl.2⟩
  | n + 1, k + 1, c, l, h, hc, hl, hk, hp => by
    obtain ⟨v1, c1, e1, a1, b1, hc1⟩ := below_ok hc (n := 4) (by omega)
    obtain ⟨v2, c2, e2, a2, b2, hc2⟩ := below_ok hc1 (n := 4) (by omega)
    obtain ⟨v3, c3, e3, a3, b3, hc3⟩ := below_ok hc2 (n := 50) (by omega)
    have hll := hl.1
    obtain ⟨b, i, hh, l', q1, q2, q3, q4⟩ := lines_run n k c3 (l ++ [⟨v1, v2, v3⟩]) (by omega) hc3 ⟨by simp; omega, fun x hx => by
      rcases List.mem_append.1 hx with hx | hx
      · exact hl.2 x hx
      · simp at hx; subst hx; exact ⟨a3, by show v3 ≤ 1000; omega⟩⟩ (by omega) (fun x hx => by
      rcases List.mem_append.1 hx with hx | hx
      · exact hp x hx
      · simp at hx; subst hx; exact ⟨a2, b2⟩)
    refine ⟨b, i, hh, l', ?_, q2, by simp at q3; omega, q4⟩
    rw [iter]
    have hlt : ltB 0 ((k + 1 : Nat) : Int) = true := ltB_lt (a := 0) (b := k + 1) (by omega)
    have ha : apOk 24 (l ++ [(⟨v1, v2, v3⟩ : SL)]).length = true := apOk_small (by omega) (by simp; omega)
    have hw : WR (((k + 1 : Nat) : Int) - 1) = (k : Int) := by rw [WR_in (by omega)]; omega
    simp only [sl38Lines_L1, hlt, cond_true, show (⟨c.fb, c.fi, c.fh⟩ : Tl1Cur) = c from rfl, e1, e2, e3, Option.bind_some, ha, hw]
    exact q1
theorem draw_ok {xs : List Int} (hl : xs.length ≤ 1048576) (hu : ∀ x ∈ xs, okU8 x) : ∃ l, sDrawNetPayments xs = some l ∧ smallL 60 l := by
  obtain ⟨c, e0, hc, _⟩ := new_ok hl hu
  obtain ⟨v1, c1, e1, a1, b1, hc1⟩ := below_ok hc (n := 6) (by omega)
  obtain ⟨k, rfl⟩ := Int.eq_ofNat_of_zero_le a1
  obtain ⟨b, i, h, l', q1, q2, q3, q4⟩ := lines_run FU k c1 [] (by have := FU_big; omega) hc1 ⟨by simp, by simp⟩ (by omega) (by simp)
  obtain ⟨v2, c2, e2, hc2⟩ := once_ok q2 (n := 8) (by omega)
  simp only [List.length_nil, Nat.zero_add] at q3
  simp only [sDrawNetPayments, sDrawTotalTurnover, e0, sl38Lines, e1, q1, e2, Option.bind_some]
  cases v2
  · exact ⟨l', rfl, by omega, q4⟩
  · obtain ⟨v3, c3, e3, a3, b3, hc3⟩ := below_ok hc2 (n := 2) (by omega)
    have ha : ∀ z : SL, apOk 24 (l' ++ [z]).length = true := fun z => apOk_small (by omega) (by simp; omega)
    obtain ⟨z, hz⟩ : ∃ z, ix [-1, (4 : Int)] v3 = some z := by
      obtain ⟨z, _, hz⟩ := ix_in (xs := [-1, (4 : Int)]) a3 (by simpa using b3)
      exact ⟨z, hz⟩
    have e3' : sl1Below c2 ((([-1, (4 : Int)] : List Int).length : Nat) : Int) = some (v3, c3) := e3
    simp only [sl1Int, e3', hz, ha, cond_true, Option.bind_some]
    refine ⟨_, rfl, by simp; omega, fun x hx => ?_⟩
    rcases List.mem_append.1 hx with hx | hx
    · exact q4 x hx
    · simp at hx; subst hx; exact ⟨by show (0 : Int) ≤ 5; omega, by show (5 : Int) ≤ 1000; omega⟩
def netP (x : SL) : Bool := leB 0 x.Payer && (ltB x.Payer 4 && (leB 0 x.Payee && ltB x.Payee 4))
theorem filt_eq {l : List SL} (hl : l.length ≤ 1048576) : iter (lFnClearingSum_L1 l) FU (0, ([] : List SL)) = some (l.filter netP) := by
  have := iter_for (step := lFnClearingSum_L1 l) l (fun k (s : List SL) => ((k : Int), s)) (fappB 24 netP id) some (by omega)
    (fun k x s hx hk => by
      simp only [lFnClearingSum_L1, ltB_lt hk, ix_nat, hx, WR_succ (show k < 9223372036854775807 by omega), fappB, netP, Option.bind_some, cond_true, id]
      cases leB 0 x.Payer <;> cases ltB x.Payer 4 <;> cases leB 0 x.Payee <;> cases ltB x.Payee 4 <;> cases apOk 24 (s ++ [x]).length <;> rfl) (fun s => by simp [lFnClearingSum_L1]) []
  refine Eq.trans (show _ = _ from this) ?_
  rw [fapp_eq (by decide) _ _ _ _ (by simpa using hl)]
  simp
def goodL (l : List SL) : Prop := smallL 60 l ∧ ∀ x ∈ l, (0 ≤ x.Payer ∧ x.Payer ≤ 3) ∧ (0 ≤ x.Payee ∧ x.Payee ≤ 3)
theorem filt_good {l : List SL} (h : smallL 60 l) : goodL (l.filter netP) := by
  refine ⟨⟨Nat.le_trans (List.length_filter_le _ _) h.1, fun x hx => h.2 x (List.mem_filter.1 hx).1⟩, fun x hx => ?_⟩
  have := (List.mem_filter.1 hx).2
  simp only [netP, Bool.and_eq_true, leB, ltB, decide_eq_true_eq] at this
  omega
def At (a b : Int) : List SL → Int
  | [] => 0
  | x :: xs => (if x.Payer = a ∧ x.Payee = b then x.Amount else 0) + At a b xs
def Pn (k : Int) : List SL → Int
  | [] => 0
  | x :: xs => ((if x.Payee = k then x.Amount else 0) - (if x.Payer = k then x.Amount else 0)) + Pn k xs
def Tn : List SL → Int
  | [] => 0
  | x :: xs => x.Amount + Tn xs
def amtB (a b : Int) (s : Int) (x : SL) : Option (Step Int Int) := some (.next (bif eqB x.Payer a && eqB x.Payee b then WR (s + x.Amount) else s))
theorem amt_run (a b : Int) : ∀ (xs : List SL) (s : Int), (∀ x ∈ xs, 0 ≤ x.Amount ∧ x.Amount ≤ 1000) → 0 ≤ s → s + 1000 * xs.length ≤ 1000000 → forL (amtB a b) some xs s = some (s + At a b xs)
  | [], s, _, _, _ => by simp [forL, At]
  | x :: xs, s, h, h0, hs => by
    have hx := h x (by simp)
    simp only [List.length_cons] at hs
    rw [forL]
    simp only [amtB, At]
    by_cases hc : x.Payer = a ∧ x.Payee = b
    · have e : (eqB x.Payer a && eqB x.Payee b) = true := by simp [eqB, hc]
      rw [e, if_pos hc]
      simp only [cond_true]
      rw [WR_in (by omega), amt_run a b xs _ (fun y hy => h y (by simp [hy])) (by omega) (by omega)]
      congr 1; omega
    · have e : (eqB x.Payer a && eqB x.Payee b) = false := by
        rw [Bool.eq_false_iff]; intro h; simp only [eqB, Bool.and_eq_true, decide_eq_true_eq] at h; exact hc h
      rw [e, if_neg hc]
      simp only [cond_false]
      rw [amt_run a b xs _ (fun y hy => h y (by simp [hy])) (by omega) (by omega)]
      congr 1; omega
theorem iamt_eq {xs : List SL} (h : smallL 60 xs) (a b : Int) : iamountPaid xs a b = some (At a b xs) := by
  have hl := h.1
  have := iter_for (step := iamountPaid_L1 xs a b) xs (fun k (s : Int) => (s, (k : Int))) (amtB a b) some (by omega)
    (fun k x s hx hk => by
      simp only [iamountPaid_L1, ltB_lt hk, ix_nat, hx, WR_succ (show k < 9223372036854775807 by omega), amtB, Option.bind_some, cond_true]
      cases eqB x.Payer a <;> cases eqB x.Payee b <;> rfl) (fun s => by simp [iamountPaid_L1]) 0
  rw [iamountPaid, show iter (iamountPaid_L1 xs a b) FU (0, 0) = _ from this, amt_run a b xs 0 h.2 (by omega) (by omega)]
  simp
def posB (k : Int) (s : Int) (x : SL) : Option (Step Int Int) := some (.next (bif eqB x.Payer k then WR ((bif eqB x.Payee k then WR (s + x.Amount) else s) - x.Amount) else (bif eqB x.Payee k then WR (s + x.Amount) else s)))
theorem pos_run (k : Int) : ∀ (xs : List SL) (s : Int), (∀ x ∈ xs, 0 ≤ x.Amount ∧ x.Amount ≤ 1000000) → -1000000000 ≤ s - 1000000 * xs.length → s + 1000000 * xs.length ≤ 1000000000 → forL (posB k) some xs s = some (s + Pn k xs)
  | [], s, _, _, _ => by simp [forL, Pn]
  | x :: xs, s, h, h0, hs => by
    have hx := h x (by simp)
    simp only [List.length_cons] at hs h0
    rw [forL]
    simp only [posB, Pn]
    have w1 : WR (s + x.Amount) = s + x.Amount := WR_in (by omega)
    by_cases h1 : x.Payee = k
    · rw [show eqB x.Payee k = true from by simp [eqB, h1]]
      by_cases h2 : x.Payer = k
      · rw [show eqB x.Payer k = true from by simp [eqB, h2]]
        simp only [cond_true, w1, h1, h2, if_true]
        rw [WR_in (by omega), pos_run k xs _ (fun y hy => h y (by simp [hy])) (by omega) (by omega)]
        congr 1; omega
      · rw [show eqB x.Payer k = false from by simp [eqB, h2]]
        simp only [cond_true, cond_false, w1, h1, h2, if_true, if_false]
        rw [pos_run k xs _ (fun y hy => h y (by simp [hy])) (by omega) (by omega)]
        congr 1; omega
    · rw [show eqB x.Payee k = false from by simp [eqB, h1]]
      by_cases h2 : x.Payer = k
      · rw [show eqB x.Payer k = true from by simp [eqB, h2]]
        simp only [cond_true, cond_false, h1, h2, if_true, if_false]
        rw [WR_in (by omega), pos_run k xs _ (fun y hy => h y (by simp [hy])) (by omega) (by omega)]
        congr 1; omega
      · rw [show eqB x.Payer k = false from by simp [eqB, h2]]
        simp only [cond_false, h1, h2, if_false]
        rw [pos_run k xs _ (fun y hy => h y (by simp [hy])) (by omega) (by omega)]
        congr 1; omega
theorem ipos_eq {xs : List SL} (hl : xs.length ≤ 60) (h : ∀ x ∈ xs, 0 ≤ x.Amount ∧ x.Amount ≤ 1000000) (k : Int) : iNetPosition xs k = some (Pn k xs) := by
  have := iter_for (step := iNetPosition_L1 xs k) xs (fun j (s : Int) => (s, (j : Int))) (posB k) some (by omega)
    (fun j x s hx hk => by
      simp only [iNetPosition_L1, ltB_lt hk, ix_nat, hx, WR_succ (show j < 9223372036854775807 by omega), posB, Option.bind_some, cond_true]
      cases eqB x.Payer k <;> cases eqB x.Payee k <;> rfl) (fun s => by simp [iNetPosition_L1]) 0
  rw [iNetPosition, show iter (iNetPosition_L1 xs k) FU (0, 0) = _ from this, pos_run k xs 0 h (by omega) (by omega)]
  simp
theorem spos_eq {xs : List SL} (hl : xs.length ≤ 60) (h : ∀ x ∈ xs, 0 ≤ x.Amount ∧ x.Amount ≤ 1000000) (k : Int) : sNetPosition xs k = some (Pn k xs) := by
  have := iter_for (step := sNetPosition_L1 xs k) xs (fun j (s : Int) => (s, (j : Int))) (posB k) some (by omega)
    (fun j x s hx hk => by
      simp only [sNetPosition_L1, ltB_lt hk, ix_nat, hx, WR_succ (show j < 9223372036854775807 by omega), posB, Option.bind_some, cond_true]
      cases eqB x.Payer k <;> cases eqB x.Payee k <;> rfl) (fun s => by simp [sNetPosition_L1]) 0
  rw [sNetPosition, show iter (sNetPosition_L1 xs k) FU (0, 0) = _ from this, pos_run k xs 0 h (by omega) (by omega)]
  simp
theorem tot_run : ∀ (xs : List SL) (s : Int), (∀ x ∈ xs, 0 ≤ x.Amount ∧ x.Amount ≤ 1000000) → 0 ≤ s → s + 1000000 * xs.length ≤ 1000000000 → forL (fun (s : Int) (x : SL) => some (Step.next (ρ := Int) (WR (s + x.Amount)))) some xs s = some (s + Tn xs)
  | [], s, _, _, _ => by simp [forL, Tn]
  | x :: xs, s, h, h0, hs => by
    have hx := h x (by simp)
    simp only [List.length_cons] at hs
    rw [forL]
    simp only [Tn]
    rw [WR_in (by omega), tot_run xs _ (fun y hy => h y (by simp [hy])) (by omega) (by omega)]
    congr 1; omega
theorem itot_eq {xs : List SL} (hl : xs.length ≤ 60) (h : ∀ x ∈ xs, 0 ≤ x.Amount ∧ x.Amount ≤ 1000000) : iTotalTurnover xs = some (Tn xs) := by
  have := iter_for (step := iTotalTurnover_L1 xs) xs (fun j (s : Int) => (s, (j : Int))) (fun s x => some (.next (WR (s + x.Amount)))) some (by omega)
    (fun j x s hx hk => by simp only [iTotalTurnover_L1, ltB_lt hk, ix_nat, hx, WR_succ (show j < 9223372036854775807 by omega), Option.bind_some, cond_true]; rfl) (fun s => by simp [iTotalTurnover_L1]) 0
  rw [iTotalTurnover, show iter (iTotalTurnover_L1 xs) FU (0, 0) = _ from this, tot_run xs 0 h (by omega) (by omega)]
  simp
theorem stot_eq {xs : List SL} (hl : xs.length ≤ 60) (h : ∀ x ∈ xs, 0 ≤ x.Amount ∧ x.Amount ≤ 1000000) : sTotalTurnover xs = some (Tn xs) := by
  have := iter_for (step := sTotalTurnover_L1 xs) xs (fun j (s : Int) => (s, (j : Int))) (fun s x => some (.next (WR (s + x.Amount)))) some (by omega)
    (fun j x s hx hk => by simp only [sTotalTurnover_L1, ltB_lt hk, ix_nat, hx, WR_succ (show j < 9223372036854775807 by omega), Option.bind_some, cond_true]; rfl) (fun s => by simp [sTotalTurnover_L1]) 0
  rw [sTotalTurnover, show iter (sTotalTurnover_L1 xs) FU (0, 0) = _ from this, tot_run xs 0 h (by omega) (by omega)]
  simp
theorem At_bd (a b : Int) : ∀ (xs : List SL), (∀ x ∈ xs, 0 ≤ x.Amount ∧ x.Amount ≤ 1000) → 0 ≤ At a b xs ∧ At a b xs ≤ 1000 * xs.length
  | [], _ => by simp [At]
  | x :: xs, h => by
    have hx := h x (by simp)
    have := At_bd a b xs (fun y hy => h y (by simp [hy]))
    simp only [At, List.length_cons]
    split <;> omega
/-- What is netted between two. -/
def seg (a b : Int) (l : List SL) : List SL := if 0 < At a b l - At b a l then [⟨a, b, At a b l - At b a l⟩] else if At a b l - At b a l < 0 then [⟨b, a, At b a l - At a b l⟩] else []
theorem seg_len (a b : Int) (l : List SL) : (seg a b l).length ≤ 1 := by unfold seg; split <;> (try split) <;> simp
theorem L2_run {l : List SL} (h : smallL 60 l) (k : Nat) (hk : k < 4) (acc : List SL) (ha : acc.length ≤ 100) : iter (iNetPayments_L2 l (k : Int)) FU (WR ((k : Int) + 1), acc) = forL (fun s (j : Nat) => some (Step.next (s ++ seg k j l))) some (List.range' (k + 1) (4 - (k + 1))) acc := by
  rw [WR_succ (by omega)]
  have hl := h.1
  have key : ∀ (m j n : Nat) (s : List SL), m = 4 - j → j ≤ 4 → m < n → s.length + m ≤ 200 → iter (iNetPayments_L2 l (k : Int)) n ((j : Int), s) = forL (fun s (j : Nat) => some (Step.next (s ++ seg k j l))) some (List.range' j (4 - j)) s := by
    intro m
    induction m with
    | zero =>
      intro j n s hm hj hn hs
      have : j = 4 := by omega
      subst this
      cases n with
      | zero => omega
      | succ n => rw [iter]; simp [iNetPayments_L2, show ltB (4 : Int) 4 = false from ltB_self 4, forL]
    | succ m ih =>
      intro j n s hm hj hn hs
      cases n with
      | zero => omega
      | succ n =>
        have hlt : ltB (j : Int) 4 = true := ltB_lt (a := j) (b := 4) (by omega)
        have b1 := At_bd k j l h.2
        have b2 := At_bd j k l h.2
        have w1 : WR (At k j l - At j k l) = At k j l - At j k l := WR_in (by omega)
        have w2 : WR (0 - (At k j l - At j k l)) = At j k l - At k j l := by rw [WR_in (by omega)]; omega
        have hap : ∀ z : SL, apOk 24 (s ++ [z]).length = true := fun z => apOk_small (by omega) (by simp; omega)
        rw [show 4 - j = (4 - (j + 1)) + 1 from by omega, List.range'_succ, forL, iter]
        have hsl := seg_len k j l
        have hstep : iNetPayments_L2 l (k : Int) ((j : Int), s) = some (.next (((j + 1 : Nat) : Int), s ++ seg k j l)) := by
          simp only [iNetPayments_L2, hlt, iamt_eq h, Option.bind_some, cond_true, w1, w2, hap, WR_succ (show j < 9223372036854775807 by omega), seg]
          by_cases c1 : 0 < At k j l - At j k l
          · rw [if_pos c1, show ltB 0 (At k j l - At j k l) = true from by simp [ltB]; omega]; rfl
          · rw [if_neg c1, show ltB 0 (At k j l - At j k l) = false from by simp [ltB]; omega]
            by_cases c2 : At k j l - At j k l < 0
            · rw [if_pos c2, show ltB (At k j l - At j k l) 0 = true from by simp [ltB]; omega]; rfl
            · rw [if_neg c2, show ltB (At k j l - At j k l) 0 = false from by simp [ltB]; omega]; simp
        rw [hstep]
        simp only []
        rw [ih (j + 1) n (s ++ seg k j l) (by omega) (by omega) (by omega) (by simp; omega)]
  exact key (4 - (k + 1)) (k + 1) FU acc rfl (by omega) (by have := FU_big; omega) (by omega)
def nets (l : List SL) : List SL := seg 0 1 l ++ seg 0 2 l ++ seg 0 3 l ++ seg 1 2 l ++ seg 1 3 l ++ seg 2 3 l
theorem net_run {l : List SL} (h : smallL 60 l) : iNetPayments l = some (nets l) := by
  have hl := h.1
  have := iter_cnt (step := iNetPayments_L1 l) 0 4 (by omega) (by omega) (fun j (s : List SL) => ((j : Int), s))
    (fun s j => Option.bind (iter (iNetPayments_L2 l (j : Int)) FU (WR ((j : Int) + 1), s)) fun v => some (.next v)) some
    (fun j s h1 h2 => by
      have h4 : ltB (j : Int) 4 = true := ltB_lt (a := j) (b := 4) h2
      simp [iNetPayments_L1, h4, WR_succ (show j < 9223372036854775807 by omega)])
    (fun s => by simp [iNetPayments_L1, show ltB (4 : Int) 4 = false from ltB_self 4]) []
  have l1 := seg_len ((0 : Nat) : Int) ((1 : Nat) : Int) l
  have l2 := seg_len ((0 : Nat) : Int) ((2 : Nat) : Int) l
  have l3 := seg_len ((0 : Nat) : Int) ((3 : Nat) : Int) l
  have l4 := seg_len ((1 : Nat) : Int) ((2 : Nat) : Int) l
  have l5 := seg_len ((1 : Nat) : Int) ((3 : Nat) : Int) l
  have l6 := seg_len ((2 : Nat) : Int) ((3 : Nat) : Int) l
  have e0 := L2_run h 0 (by omega) [] (by simp)
  have e1 := L2_run h 1 (by omega) ([] ++ seg ((0 : Nat) : Int) ((1 : Nat) : Int) l ++ seg ((0 : Nat) : Int) ((2 : Nat) : Int) l ++ seg ((0 : Nat) : Int) ((3 : Nat) : Int) l) (by simp only [List.length_append, List.length_nil]; omega)
  have e2 := L2_run h 2 (by omega) ([] ++ seg ((0 : Nat) : Int) ((1 : Nat) : Int) l ++ seg ((0 : Nat) : Int) ((2 : Nat) : Int) l ++ seg ((0 : Nat) : Int) ((3 : Nat) : Int) l ++ seg ((1 : Nat) : Int) ((2 : Nat) : Int) l ++ seg ((1 : Nat) : Int) ((3 : Nat) : Int) l) (by simp only [List.length_append, List.length_nil]; omega)
  have e3 := L2_run h 3 (by omega) ([] ++ seg ((0 : Nat) : Int) ((1 : Nat) : Int) l ++ seg ((0 : Nat) : Int) ((2 : Nat) : Int) l ++ seg ((0 : Nat) : Int) ((3 : Nat) : Int) l ++ seg ((1 : Nat) : Int) ((2 : Nat) : Int) l ++ seg ((1 : Nat) : Int) ((3 : Nat) : Int) l ++ seg ((2 : Nat) : Int) ((3 : Nat) : Int) l) (by simp only [List.length_append, List.length_nil]; omega)
  simp only [Nat.reduceAdd, Nat.reduceSub, List.range', forL] at e0 e1 e2 e3
  rw [iNetPayments, show iter (iNetPayments_L1 l) FU (0, []) = _ from this]
  simp only [Nat.reduceSub, Nat.sub_zero, List.range', forL, Nat.reduceAdd]
  rw [show iter (iNetPayments_L2 l ((0 : Nat) : Int)) FU (WR (((0 : Nat) : Int) + 1), []) = _ from e0]
  simp only [Option.bind_some]
  rw [show iter (iNetPayments_L2 l ((1 : Nat) : Int)) FU (WR (((1 : Nat) : Int) + 1), _) = _ from e1]
  simp only [Option.bind_some]
  rw [show iter (iNetPayments_L2 l ((2 : Nat) : Int)) FU (WR (((2 : Nat) : Int) + 1), _) = _ from e2]
  simp only [Option.bind_some]
  rw [show iter (iNetPayments_L2 l ((3 : Nat) : Int)) FU (WR (((3 : Nat) : Int) + 1), _) = _ from e3]
  rfl
theorem Pn_app (k : Int) : ∀ (a b : List SL), Pn k (a ++ b) = Pn k a + Pn k b
  | [], b => by simp [Pn]
  | x :: a, b => by rw [List.cons_append, Pn, Pn, Pn_app k a b]; omega
theorem Tn_app : ∀ (a b : List SL), Tn (a ++ b) = Tn a + Tn b
  | [], b => by simp [Tn]
  | x :: a, b => by rw [List.cons_append, Tn, Tn, Tn_app a b]; omega
theorem Pn_seg (a b k : Int) (l : List SL) : Pn k (seg a b l) = (if b = k then At a b l - At b a l else 0) - (if a = k then At a b l - At b a l else 0) := by
  unfold seg
  split
  · simp only [Pn]; split <;> split <;> omega
  · split
    · simp only [Pn]; split <;> split <;> omega
    · simp only [Pn]; split <;> split <;> omega
theorem Tn_seg (a b : Int) (l : List SL) (h : ∀ x ∈ l, 0 ≤ x.Amount ∧ x.Amount ≤ 1000) : Tn (seg a b l) ≤ At a b l + At b a l := by
  have b1 := At_bd a b l h
  have b2 := At_bd b a l h
  unfold seg
  split
  · simp only [Tn]; omega
  · split
    · simp only [Tn]; omega
    · simp only [Tn]; omega
theorem seg_mem {a b : Int} {l : List SL} (hab : a ≠ b) (h : smallL 60 l) : ∀ x ∈ seg a b l, 1 ≤ x.Amount ∧ x.Amount ≤ 1000000 ∧ x.Payer ≠ x.Payee := by
  have b1 := At_bd a b l h.2
  have b2 := At_bd b a l h.2
  have hl := h.1
  intro x hx
  unfold seg at hx
  split at hx
  · simp at hx; subst hx; exact ⟨by show 1 ≤ At a b l - At b a l; omega, by show At a b l - At b a l ≤ _; omega, hab⟩
  · split at hx
    · simp at hx; subst hx; exact ⟨by show 1 ≤ At b a l - At a b l; omega, by show At b a l - At a b l ≤ _; omega, fun e => hab e.symm⟩
    · cases hx
theorem all_eqs : ∀ (l : List SL), (∀ x ∈ l, (0 ≤ x.Payer ∧ x.Payer ≤ 3) ∧ (0 ≤ x.Payee ∧ x.Payee ≤ 3)) →
    Pn 0 l = (At 1 0 l - At 0 1 l) + (At 2 0 l - At 0 2 l) + (At 3 0 l - At 0 3 l) ∧
    Pn 1 l = (At 0 1 l - At 1 0 l) + (At 2 1 l - At 1 2 l) + (At 3 1 l - At 1 3 l) ∧
    Pn 2 l = (At 0 2 l - At 2 0 l) + (At 1 2 l - At 2 1 l) + (At 3 2 l - At 2 3 l) ∧
    Pn 3 l = (At 0 3 l - At 3 0 l) + (At 1 3 l - At 3 1 l) + (At 2 3 l - At 3 2 l) ∧
    Tn l = (At 0 0 l + At 1 1 l + At 2 2 l + At 3 3 l) + (At 0 1 l + At 1 0 l) + (At 0 2 l + At 2 0 l) + (At 0 3 l + At 3 0 l) + (At 1 2 l + At 2 1 l) + (At 1 3 l + At 3 1 l) + (At 2 3 l + At 3 2 l)
  | [], _ => by simp [Pn, At, Tn]
  | x :: l, h => by
    obtain ⟨i1, i2, i3, i4, i5⟩ := all_eqs l (fun y hy => h y (by simp [hy]))
    obtain ⟨⟨p1, p2⟩, q1, q2⟩ := h x (by simp)
    have hp : x.Payer = 0 ∨ x.Payer = 1 ∨ x.Payer = 2 ∨ x.Payer = 3 := by omega
    have hq : x.Payee = 0 ∨ x.Payee = 1 ∨ x.Payee = 2 ∨ x.Payee = 3 := by omega
    simp only [Pn, At, Tn]
    rcases hp with hp | hp | hp | hp <;> rcases hq with hq | hq | hq | hq <;> simp only [hp, hq] <;> simp <;> omega
theorem net_facts {l : List SL} (h : goodL l) : (nets l).length ≤ 60 ∧ (∀ x ∈ nets l, 1 ≤ x.Amount ∧ x.Amount ≤ 1000000 ∧ x.Payer ≠ x.Payee) ∧ Pn 0 (nets l) = Pn 0 l ∧ Pn 1 (nets l) = Pn 1 l ∧ Pn 2 (nets l) = Pn 2 l ∧ Pn 3 (nets l) = Pn 3 l ∧ Pn 0 l + Pn 1 l + Pn 2 l + Pn 3 l = 0 ∧ Tn (nets l) ≤ Tn l := by
  obtain ⟨i1, i2, i3, i4, i5⟩ := all_eqs l h.2
  have l1 := seg_len 0 1 l
  have l2 := seg_len 0 2 l
  have l3 := seg_len 0 3 l
  have l4 := seg_len 1 2 l
  have l5 := seg_len 1 3 l
  have l6 := seg_len 2 3 l
  have t1 := Tn_seg 0 1 l h.1.2
  have t2 := Tn_seg 0 2 l h.1.2
  have t3 := Tn_seg 0 3 l h.1.2
  have t4 := Tn_seg 1 2 l h.1.2
  have t5 := Tn_seg 1 3 l h.1.2
  have t6 := Tn_seg 2 3 l h.1.2
  have z0 := (At_bd 0 0 l h.1.2).1
  have z1 := (At_bd 1 1 l h.1.2).1
  have z2 := (At_bd 2 2 l h.1.2).1
  have z3 := (At_bd 3 3 l h.1.2).1
  refine ⟨by simp only [nets, List.length_append]; omega, fun x hx => ?_, ?_, ?_, ?_, ?_, by omega, ?_⟩
  · simp only [nets, List.mem_append] at hx
    rcases hx with ((((hx | hx) | hx) | hx) | hx) | hx
    · exact seg_mem (by omega) h.1 x hx
    · exact seg_mem (by omega) h.1 x hx
    · exact seg_mem (by omega) h.1 x hx
    · exact seg_mem (by omega) h.1 x hx
    · exact seg_mem (by omega) h.1 x hx
    · exact seg_mem (by omega) h.1 x hx
  · simp only [nets, Pn_app, Pn_seg]; simp; omega
  · simp only [nets, Pn_app, Pn_seg]; simp; omega
  · simp only [nets, Pn_app, Pn_seg]; simp; omega
  · simp only [nets, Pn_app, Pn_seg]; simp; omega
  · simp only [nets, Tn_app]; omega
def l3B (s : Int) (x : SL) : Option (Step Int Bool) := bif ltB x.Amount 1 || eqB x.Payer x.Payee then some (.done false) else some (.next (WR (s + x.Amount)))
theorem l3_run (fin : Int → Option Bool) : ∀ (xs : List SL) (s : Int), (∀ x ∈ xs, 1 ≤ x.Amount ∧ x.Amount ≤ 1000000 ∧ x.Payer ≠ x.Payee) → 0 ≤ s → s + 1000000 * xs.length ≤ 1000000000 → forL l3B fin xs s = fin (s + Tn xs)
  | [], s, _, _, _ => by simp [forL, Tn]
  | x :: xs, s, h, h0, hs => by
    obtain ⟨h1, h2, h3⟩ := h x (by simp)
    simp only [List.length_cons] at hs
    rw [forL]
    have e1 : ltB x.Amount 1 = false := by simp [ltB]; omega
    have e2 : eqB x.Payer x.Payee = false := by simp [eqB, h3]
    simp only [l3B, e1, e2, Bool.or_self, cond_false, Tn]
    rw [WR_in (by omega), l3_run fin xs _ (fun y hy => h y (by simp [hy])) (by omega) (by omega)]
    congr 1; omega
theorem lFnClearingSum_ok (xs : List Int) (hp : preL okU8 xs) : lFnClearingSum xs = some true := by
  unfold lFnClearingSum lbig
  by_cases hl : 1048576 < xs.length
  · rw [show ltB 1048576 ((xs.length : Nat) : Int) = true from by simp [ltB]; omega]; rfl
  rw [show ltB 1048576 ((xs.length : Nat) : Int) = false from by simp [ltB]; omega]
  obtain ⟨all, e0, hs0⟩ := draw_ok (xs := xs) (by omega) hp.2
  simp only [Option.bind_some, cond_false, e0, filt_eq (l := all) (by have := hs0.1; omega)]
  obtain ⟨l, hl'⟩ : ∃ l, l = all.filter netP := ⟨_, rfl⟩
  have hg : goodL l := by rw [hl']; exact filt_good hs0
  rw [← hl', net_run hg.1]
  simp only [Option.bind_some]
  obtain ⟨f1, f2, f3, f4, f5, f6, f7, f8⟩ := net_facts hg
  have hl60 := hg.1.1
  have hb : ∀ x ∈ l, 0 ≤ x.Amount ∧ x.Amount ≤ 1000000 := fun x hx => by have := hg.1.2 x hx; omega
  have hb' : ∀ x ∈ nets l, 0 ≤ x.Amount ∧ x.Amount ≤ 1000000 := fun x hx => by have := f2 x hx; omega
  -- the last loop
  have h3 : iter (lFnClearingSum_L3 l (nets l) 0) FU (0, 0) = some true := by
    have := iter_for (step := lFnClearingSum_L3 l (nets l) 0) (nets l) (fun k (s : Int) => (s, (k : Int))) l3B
      (fun s => Option.bind (bif eqB 0 0 then (Option.bind (iTotalTurnover (nets l)) fun r35 => bif eqB r35 s then (Option.bind (iTotalTurnover l) fun r36 => bif leB s r36 then (Option.bind (iTotalTurnover l) fun r37 => Option.bind (sTotalTurnover l) fun r38 => some (eqB r37 r38)) else (some false)) else (some false)) else (some false)) fun (v34 : Bool) => some v34) (by omega)
      (fun k x s hx hk => by
        simp only [lFnClearingSum_L3, ltB_lt hk, ix_nat, hx, WR_succ (show k < 9223372036854775807 by omega), l3B, Option.bind_some, cond_true]
        cases ltB x.Amount 1 <;> cases eqB x.Payer x.Payee <;> rfl)
      (fun s => by simp only [lFnClearingSum_L3, ltB_self, cond_false]) 0
    refine Eq.trans (show _ = _ from this) ?_
    rw [l3_run _ _ _ f2 (by omega) (by omega)]
    have e8 : leB (0 + Tn (nets l)) (Tn l) = true := by simp [leB]; omega
    simp only [eqB_refl, cond_true, itot_eq f1 hb', itot_eq hl60 hb, stot_eq hl60 hb, Option.bind_some, Int.zero_add, e8]
    rw [show leB (Tn (nets l)) (Tn l) = true from by simp [leB]; omega]
    rfl
  -- the loop over the networks
  have bd : ∀ a b : Int, 0 ≤ At a b l ∧ At a b l ≤ 60000 := fun a b => by have := At_bd a b l hg.1.2; omega
  obtain ⟨i1, i2, i3, i4, i5⟩ := all_eqs l hg.2
  have b01 := bd 0 1; have b10 := bd 1 0; have b02 := bd 0 2; have b20 := bd 2 0; have b03 := bd 0 3; have b30 := bd 3 0
  have b12 := bd 1 2; have b21 := bd 2 1; have b13 := bd 1 3; have b31 := bd 3 1; have b23 := bd 2 3; have b32 := bd 3 2
  have stp : ∀ (k : Nat) (s : Int), k < 4 → Pn k (nets l) = Pn k l → lFnClearingSum_L2 l (nets l) (s, (k : Int)) = some (.next (WR (s + Pn k l), ((k + 1 : Nat) : Int))) := by
    intro k s hk he
    have h4 : ltB (k : Int) 4 = true := ltB_lt (a := k) (b := 4) hk
    simp only [lFnClearingSum_L2, h4, cond_true, ipos_eq hl60 hb, spos_eq hl60 hb, ipos_eq f1 hb', he, eqB_refl, Bool.not_true, cond_false, Option.bind_some, WR_succ (show k < 9223372036854775807 by omega)]
  obtain ⟨n, hn⟩ : ∃ n, FU = n + 5 := ⟨FU - 5, by have := FU_big; omega⟩
  have s0 := stp 0 0 (by omega) f3
  have s1 := stp 1 (Pn 0 l) (by omega) f4
  have s2 := stp 2 (Pn 0 l + Pn 1 l) (by omega) f5
  have s3 := stp 3 (Pn 0 l + Pn 1 l + Pn 2 l) (by omega) f6
  have e0 : (((0 : Nat) : Int)) = 0 := rfl
  have e1' : (((1 : Nat) : Int)) = 1 := rfl
  have e2' : (((2 : Nat) : Int)) = 2 := rfl
  have e3' : (((3 : Nat) : Int)) = 3 := rfl
  rw [e0, WR_in (by omega), Int.zero_add] at s0
  rw [e1', WR_in (by omega)] at s1
  rw [e2', WR_in (by omega)] at s2
  rw [e3', WR_in (by omega), f7] at s3
  have h2 : iter (lFnClearingSum_L2 l (nets l)) (n + 5) (0, 0) = some true := by
    rw [iter, s0]
    simp only [Nat.reduceAdd]
    rw [iter, e1', s1]
    simp only [Nat.reduceAdd]
    rw [iter, e2', s2]
    simp only [Nat.reduceAdd]
    rw [iter, e3', s3]
    simp only [Nat.reduceAdd]
    rw [iter]
    have : lFnClearingSum_L2 l (nets l) (0, ((4 : Nat) : Int)) = dn (some true) := by
      rw [← h3]
      simp only [lFnClearingSum_L2, show ltB ((4 : Nat) : Int) 4 = false from ltB_self 4, cond_false]
    rw [this]
    rfl
  rw [hn]
  exact h2
theorem fnClearingSum_fn (x0 : D) (h0 : WT (.l [.i .u8]) x0) : Fn Try.prog 4 [.c x0] [rB true] := by
  obtain ⟨y0, rfl, l0, w0⟩ := h0.gl
  obtain ⟨a0, rfl, p0⟩ := WTL_map (f := eU8) (p := okU8) (fun x h => by obtain ⟨n, r, rfl, w, h⟩ := h.gi; obtain rfl := h.gn; exact ⟨n, rfl, wf_u8 w⟩) w0
  exact lFnClearingSum_c (lFnClearingSum_ok a0 ⟨by simpa using l0, p0⟩)
end Go.AM
