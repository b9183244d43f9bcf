/-
  Own text: a part of the abstract machine for this seat (Qx). No statement is proved here.
-/
import Derived.Test.YtcejklimolcjiaaGreatQw
set_option linter.unusedVariables false
set_option linter.unusedSimpArgs false
namespace Go.AM
open Go.Proofs
attribute [local simp] ltB_self eqB_refl ix_nat
def totR (a : TAccount) : Int := a.Reservations.foldl (fun s x => WR (s + x.Amount)) 0
theorem totr_i {a : TAccount} (h : okTAccount a) : iTotalReserved a = some (totR a) := by
  have := h.1
  unfold iTotalReserved
  rw [fold_rule a.Reservations (fun s x => WR (s + x.Amount)) (by omega) (fun k x s hx hk => by
    simp only [iTotalReserved_L1, ltB_lt hk, ix_nat, hx, WR_succ (show k < 9223372036854775807 by omega), Option.bind_some, cond_true]) (fun s => by simp [iTotalReserved_L1])]
  rfl
theorem totr_s {a : TAccount} (h : okTAccount a) : sTotalReserved a = some (totR a) := by
  have := h.1
  unfold sTotalReserved
  rw [fold_rule a.Reservations (fun s x => WR (s + x.Amount)) (by omega) (fun k x s hx hk => by
    simp only [sTotalReserved_L1, ltB_lt hk, ix_nat, hx, WR_succ (show k < 9223372036854775807 by omega), Option.bind_some, cond_true]) (fun s => by simp [sTotalReserved_L1])]
  rfl
def resB (a : TAccount) (k : Nat) (x : TReservation) : Bool := !ltB x.SessionID 0 && (inR x.Amount 1 100000 && prevB TReservation.SessionID a.Reservations k x)
def totB (a : TAccount) : Bool := eqB (WR (WR (a.Available + a.Spent) + totR a)) a.Total
def vAccount (a : TAccount) : Bool := inR a.Total 0 100000 && (inR a.Available 0 a.Total && (inR a.Spent 0 a.Total && (leB ((a.Reservations.length : Nat) : Int) 8 && (allI (resB a) a.Reservations && totB a))))
theorem account_i {a : TAccount} (h : okTAccount a) : iIsValidAccount a = some (vAccount a) := by
  have hl := h.1
  have hL : iter (iIsValidAccount_L1 a) FU 0 = bif allI (resB a) a.Reservations then some (totB a) else some false := by
    refine allI_rule a.Reservations (resB a) _ (by omega) (fun k x hx hk => ?_) (by simp [iIsValidAccount_L1, totr_i h, totB])
    simp only [iIsValidAccount_L1, ltB_lt hk, ix_nat, hx, WR_succ (show k < 9223372036854775807 by omega), inr_i, Option.bind_some, cond_true, resB]
    cases k with
    | zero =>
      simp only [prevB, show ltB 0 ((0 : Nat) : Int) = false from by simp [ltB]]
      cases ltB x.SessionID 0 <;> cases inR x.Amount 1 100000 <;> rfl
    | succ k =>
      obtain ⟨y, hy, hi⟩ := ix_prev hk (by omega) (by omega)
      simp only [Nat.add_sub_cancel] at hy
      simp only [prevB, hy, hi, show ltB 0 ((k + 1 : Nat) : Int) = true from by simp [ltB], Option.bind_some]
      cases ltB x.SessionID 0 <;> cases inR x.Amount 1 100000 <;> cases leB x.SessionID y.SessionID <;> rfl
  simp only [iIsValidAccount, inr_i, Option.bind_some, hL, vAccount, lt_le 8]
  cases inR a.Total 0 100000 <;> cases inR a.Available 0 a.Total <;> cases inR a.Spent 0 a.Total <;> cases leB ((a.Reservations.length : Nat) : Int) 8 <;> cases allI (resB a) a.Reservations <;> rfl
theorem account_s {a : TAccount} (h : okTAccount a) : sIsValidAccount a = some (vAccount a) := by
  have hl := h.1
  have hL : iter (sIsValidAccount_L1 a) FU 0 = bif allI (resB a) a.Reservations then some (inR a.Total 0 100000 && (inR a.Available 0 a.Total && (inR a.Spent 0 a.Total && (leB ((a.Reservations.length : Nat) : Int) 8 && totB a)))) else some false := by
    refine allI_rule a.Reservations (resB a) _ (by omega) (fun k x hx hk => ?_) ?_
    · simp only [sIsValidAccount_L1, ltB_lt hk, ix_nat, hx, WR_succ (show k < 9223372036854775807 by omega), inr_s, Option.bind_some, cond_true, resB]
      cases k with
      | zero =>
        simp only [prevB, show ltB 0 ((0 : Nat) : Int) = false from by simp [ltB]]
        cases ltB x.SessionID 0 <;> cases inR x.Amount 1 100000 <;> rfl
      | succ k =>
        obtain ⟨y, hy, hi⟩ := ix_prev hk (by omega) (by omega)
        simp only [Nat.add_sub_cancel] at hy
        simp only [prevB, hy, hi, hx, ix_nat, show ltB 0 ((k + 1 : Nat) : Int) = true from by simp [ltB], Option.bind_some]
        cases ltB x.SessionID 0 <;> cases inR x.Amount 1 100000 <;> cases leB x.SessionID y.SessionID <;> rfl
    · simp only [sIsValidAccount_L1, ltB_self, inr_s, totr_s h, Option.bind_some, cond_false, totB]
      cases inR a.Total 0 100000 <;> cases inR a.Available 0 a.Total <;> cases inR a.Spent 0 a.Total <;> cases leB ((a.Reservations.length : Nat) : Int) 8 <;> rfl
  simp only [sIsValidAccount, hL, vAccount]
  cases inR a.Total 0 100000 <;> cases inR a.Available 0 a.Total <;> cases inR a.Spent 0 a.Total <;> cases leB ((a.Reservations.length : Nat) : Int) 8 <;> cases allI (resB a) a.Reservations <;> rfl
def resFor (a : TAccount) (i : Int) : Int := match a.Reservations.find? (fun x => eqB x.SessionID i) with
  | some x => x.Amount
  | none => 0
theorem find_ix {α : Type} (p : α → Bool) (xs : List α) : (idxF p 0 xs = -1 ∧ xs.find? p = none) ∨ ∃ x, ltB (idxF p 0 xs) 0 = false ∧ ix xs (idxF p 0 xs) = some x ∧ xs.find? p = some x := by
  rcases idx_cases p xs 0 with ⟨h1, h2⟩ | ⟨j, h1, x, h2, h3, h4⟩
  · exact .inl ⟨h1, by rw [List.find?_eq_none]; intro x hx; simp [h2 x hx]⟩
  · right
    have h1' : idxF p 0 xs = ((j : Nat) : Int) := by simpa using h1
    refine ⟨x, by rw [h1']; simp [ltB], by rw [h1', ix_nat, h2], ?_⟩
    have hj := (List.getElem?_eq_some_iff.1 h2)
    rw [List.find?_eq_some_iff_getElem]
    have hjl := hj.1
    refine ⟨h3, j, hjl, hj.2, fun i hi => ?_⟩
    have hil : i < xs.length := Nat.lt_trans hi hjl
    have : xs[i] ∈ xs.take j := List.mem_take_iff_getElem.2 ⟨i, by omega, rfl⟩
    simp [h4 _ this]
theorem resfor_i {a : TAccount} (h : okTAccount a) (i : Int) : iReservedFor a i = some (resFor a i) := by
  have := h.1
  have hf := find_rule (L := ireservationIndex_L1 a i) a.Reservations (fun x => eqB x.SessionID i) (by omega) (fun k x hx hk => by
    simp only [ireservationIndex_L1, ltB_lt hk, ix_nat, hx, WR_succ (show k < 9223372036854775807 by omega), Option.bind_some, cond_true]
    cases eqB x.SessionID i <;> rfl) (by simp [ireservationIndex_L1, dn])
  unfold iReservedFor ireservationIndex resFor
  rw [hf]
  rcases find_ix (fun x : TReservation => eqB x.SessionID i) a.Reservations with ⟨e1, e2⟩ | ⟨x, e1, e2, e3⟩
  · rw [e1, e2]; simp [ltB]
  · simp only [Option.bind_some, e1, e2, e3, cond_false]
theorem resfor_s {a : TAccount} (h : okTAccount a) (i : Int) : sReservedFor a i = some (resFor a i) := by
  have := h.1
  have hf := find_rule (L := sl16Find_L1 a i) a.Reservations (fun x => eqB x.SessionID i) (by omega) (fun k x hx hk => by
    simp only [sl16Find_L1, ltB_lt hk, ix_nat, hx, WR_succ (show k < 9223372036854775807 by omega), Option.bind_some, cond_true]
    cases eqB x.SessionID i <;> rfl) (by simp [sl16Find_L1, dn])
  unfold sReservedFor sl16Find resFor
  rw [hf]
  rcases find_ix (fun x : TReservation => eqB x.SessionID i) a.Reservations with ⟨e1, e2⟩ | ⟨x, e1, e2, e3⟩
  · rw [e1, e2]; simp [ltB]
  · simp only [Option.bind_some, e1, e2, e3, cond_false]
def vMatch (a : TAccount) (q : TQuota) : Bool := vAccount a && (vQuota q && eqB (resFor a q.SessionID) q.Granted)
theorem match_i {a : TAccount} (h : okTAccount a) (q : TQuota) : iQuotaMatchesAccount a q = some (vMatch a q) := by
  simp only [iQuotaMatchesAccount, account_i h, quota_i, resfor_i h, Option.bind_some, vMatch]; cases vAccount a <;> cases vQuota q <;> rfl
theorem match_s {a : TAccount} (h : okTAccount a) (q : TQuota) : sQuotaMatchesAccount a q = some (vMatch a q) := by
  simp only [sQuotaMatchesAccount, account_s h, quota_s, resfor_s h, Option.bind_some, vMatch]; cases vAccount a <;> cases vQuota q <;> rfl
/-! the map -/
theorem allI_ruleG {α ρ : Type} {L : Int → Option (Step Int ρ)} (xs : List α) (p : Nat → α → Bool) (f : ρ) (c : Option ρ) (hl : xs.length ≤ 9223372036854775806)
    (hs : ∀ (k : Nat) (x : α), xs[k]? = some x → k < xs.length → L (k : Int) = bif p k x then some (.next ((k + 1 : Nat) : Int)) else some (.done f)) (he : L ((xs.length : Nat) : Int) = dn c) :
    iter L FU 0 = bif allI p xs then c else some f := by
  have := iter_for (step := L) xs.zipIdx (fun k (_ : Unit) => (k : Int)) (fun _ y => bif p y.2 y.1 then some (.next ()) else some (.done f)) (fun _ => c) (by simpa using hl)
    (fun k y s hy hk => by
      have hk' : k < xs.length := by simpa using hk
      have : y = (xs[k], k) := by rw [List.getElem?_eq_getElem hk] at hy; simpa using hy.symm
      subst this
      rw [hs k xs[k] (List.getElem?_eq_getElem hk') hk']; cases p k xs[k] <;> rfl) (fun s => by rw [List.length_zipIdx, he]) ()
  refine Eq.trans (show iter L FU 0 = _ from this) ?_
  have key : ∀ ys : List (α × Nat), forL (fun (_ : Unit) y => bif p y.2 y.1 then some (.next ()) else some (Step.done f)) (fun _ => c) ys () = bif ys.all (fun y => p y.2 y.1) then c else some f := by
    intro ys
    induction ys with
    | nil => rfl
    | cons x xs ih => rw [forL]; cases hp : p x.2 x.1 <;> simp [hp, ih]
  exact key _
theorem has_s {l : List Int} (h : l.length ≤ 1048576) (v : Int) : sl10Has l v = some (l.any fun x => eqB x v) :=
  any_rule l (fun x => eqB x v) (by omega) (fun k x hx hk => by
    simp only [sl10Has_L1, ltB_lt hk, ix_nat, hx, WR_succ (show k < 9223372036854775807 by omega), Option.bind_some, cond_true]
    cases eqB x v <;> rfl) (by simp [sl10Has_L1, dn])
theorem eqB_comm (a b : Int) : eqB a b = eqB b a := by rw [Bool.eq_iff_iff]; simp [eqB]; exact eq_comm
theorem has_i {l : List Int} (h : l.length ≤ 1048576) (v : Int) : gslices_Contains_int_int l v = some (l.any fun x => eqB x v) := by
  have hf := find_rule (L := gslices_Index_int_int_L1 l v) l (fun x => eqB x v) (by omega) (fun k x hx hk => by
    simp only [gslices_Index_int_int_L1, ltB_lt hk, ix_nat, hx, WR_succ (show k < 9223372036854775807 by omega), Option.bind_some, cond_true, eqB_comm v x]
    cases eqB x v <;> rfl) (by simp [gslices_Index_int_int_L1, dn])
  unfold gslices_Contains_int_int gslices_Index_int_int
  rw [hf]
  simp only [Option.bind_some]
  rw [idx_nonneg (by omega)]
def cellB (m : TCellMap) (i : Int) : Bool := inR i 0 (((m.Cells.length : Nat) : Int) - 1)
theorem cell_i {m : TCellMap} (h : m.Cells.length ≤ 1048576) (i : Int) : iisCell m i = some (cellB m i) := by
  simp only [iisCell, inr_i, WR_pred h, Option.bind_some, cellB]
def backB (m : TCellMap) (x : Int) (i : Nat) : Bool := match m.Cells[x.toNat]? with
  | some d => d.Neighbors.any fun y => eqB y (i : Int)
  | none => false
def nbB (m : TCellMap) (i : Nat) (ns : List Int) (k : Nat) (x : Int) : Bool := cellB m x && (!eqB x (i : Int) && (prevB id ns k x && backB m x i))
def vCell (m : TCellMap) (i : Nat) (c : TCell) : Bool := inR c.Area 0 2 && allI (nbB m i c.Neighbors) c.Neighbors
def vMap (m : TCellMap) : Bool := inR ((m.Cells.length : Nat) : Int) 1 6 && allI (vCell m) m.Cells
theorem cell_ix {m : TCellMap} {x : Int} (h : cellB m x = true) : ∃ d, d ∈ m.Cells ∧ ix m.Cells x = some d ∧ m.Cells[x.toNat]? = some d := by
  simp only [cellB, inR_iff] at h
  have hlt : x.toNat < m.Cells.length := by omega
  refine ⟨m.Cells[x.toNat], List.getElem_mem hlt, ?_, List.getElem?_eq_getElem hlt⟩
  have hm : x = ((x.toNat : Nat) : Int) := by omega
  generalize x.toNat = m at hm hlt ⊢
  rw [hm, ix_nat, List.getElem?_eq_getElem hlt]
theorem map_i {m : TCellMap} (h : okTCellMap m) : iIsValidMap m = some (vMap m) := by
  have hl := h.1
  have h2 : ∀ (i : Nat) (c : TCell), c ∈ m.Cells → i < m.Cells.length → iter (iIsValidMap_L2 m (i : Int) c) FU 0 = bif allI (fun k x => !eqB x (i : Int) && (cellB m x && backB m x i)) c.Neighbors then some (.next ((i + 1 : Nat) : Int)) else some (.done false) := by
    intro i c hc hi
    have hn := (h.2 c hc).1
    refine allI_ruleG c.Neighbors (fun k x => !eqB x (i : Int) && (cellB m x && backB m x i)) (Step.done false) _ (by omega) (fun k x hx hk => ?_) (by simp [iIsValidMap_L2, WR_succ (show i < 9223372036854775807 by omega)])
    simp only [iIsValidMap_L2, ltB_lt hk, ix_nat, hx, WR_succ (show k < 9223372036854775807 by omega), cell_i hl, iAreNeighbors, Option.bind_some, cond_true]
    cases eqB x (i : Int) with
    | true => rfl
    | false =>
      cases hcb : cellB m x with
      | false => rfl
      | true =>
        obtain ⟨d, d1, d2, d3⟩ := cell_ix hcb
        simp only [d2, has_i (h.2 d d1).1, backB, d3, Option.bind_some, cond_true, cond_false, Bool.not_true, Bool.not_false]
        cases (d.Neighbors.any fun y => eqB y (i : Int)) <;> rfl
  have hL : iter (iIsValidMap_L1 m) FU 0 = bif allI (vCell m) m.Cells then some true else some false := by
    refine allI_ruleG m.Cells (vCell m) false (some true) (by omega) (fun k x hx hk => ?_) (by simp [iIsValidMap_L1])
    have hm := List.mem_of_getElem? hx
    simp only [iIsValidMap_L1, ltB_lt hk, ix_nat, hx, inr_i, iasc_eq (h.2 x hm).1, h2 k x hm hk, Option.bind_some, cond_true, vCell]
    have : allI (nbB m k x.Neighbors) x.Neighbors = (asc x.Neighbors && allI (fun j y => !eqB y (k : Int) && (cellB m y && backB m y k)) x.Neighbors) := by
      rw [asc, allI_and]
      exact allI_congr fun j y _ => by simp only [nbB]; ac_rfl
    rw [this]
    cases inR x.Area 0 2 <;> cases asc x.Neighbors <;> cases allI (fun j y => !eqB y (k : Int) && (cellB m y && backB m y k)) x.Neighbors <;> rfl
  simp only [iIsValidMap, inr_i, Option.bind_some, hL, vMap]
  cases inR ((m.Cells.length : Nat) : Int) 1 6 <;> cases allI (vCell m) m.Cells <;> rfl
theorem map_s {m : TCellMap} (h : okTCellMap m) : sIsValidMap m = some (vMap m) := by
  have hl := h.1
  have h2 : ∀ (i : Nat) (c : TCell), c ∈ m.Cells → i < m.Cells.length → iter (sIsValidMap_L2 m (i : Int) c) FU 0 = bif allI (nbB m i c.Neighbors) c.Neighbors then some (.next ((i + 1 : Nat) : Int)) else some (.done false) := by
    intro i c hc hi
    have hn := (h.2 c hc).1
    refine allI_ruleG c.Neighbors (nbB m i c.Neighbors) (Step.done false) _ (by omega) (fun k x hx hk => ?_) (by simp [sIsValidMap_L2, WR_succ (show i < 9223372036854775807 by omega)])
    simp only [sIsValidMap_L2, ltB_lt hk, ix_nat, hx, WR_succ (show k < 9223372036854775807 by omega), inr_s, WR_pred hl, Option.bind_some, cond_true, nbB]
    cases hcb : cellB m x with
    | false => rw [show inR x 0 (((m.Cells.length : Nat) : Int) - 1) = false from hcb]; rfl
    | true =>
      rw [show inR x 0 (((m.Cells.length : Nat) : Int) - 1) = true from hcb]
      obtain ⟨d, d1, d2, d3⟩ := cell_ix hcb
      cases k with
      | zero =>
        simp only [prevB, show ltB 0 ((0 : Nat) : Int) = false from by simp [ltB], d2, has_s (h.2 d d1).1, backB, d3, Option.bind_some, cond_true, cond_false, Bool.not_true]
        cases eqB x (i : Int) <;> cases (d.Neighbors.any fun y => eqB y (i : Int)) <;> rfl
      | succ k =>
        obtain ⟨y, hy, hi⟩ := ix_prev hk (by omega) (by omega)
        simp only [Nat.add_sub_cancel] at hy
        simp only [prevB, hy, hi, show ltB 0 ((k + 1 : Nat) : Int) = true from by simp [ltB], d2, has_s (h.2 d d1).1, backB, d3, Option.bind_some, cond_true, cond_false, Bool.not_true, id]
        cases eqB x (i : Int) <;> cases leB x y <;> cases (d.Neighbors.any fun y => eqB y (i : Int)) <;> rfl
  have hL : iter (sIsValidMap_L1 m) FU 0 = bif allI (vCell m) m.Cells then some (inR ((m.Cells.length : Nat) : Int) 1 6) else some false := by
    refine allI_ruleG m.Cells (vCell m) false _ (by omega) (fun k x hx hk => ?_) (by simp [sIsValidMap_L1, inr_s])
    have hm := List.mem_of_getElem? hx
    simp only [sIsValidMap_L1, ltB_lt hk, ix_nat, hx, inr_s, h2 k x hm hk, Option.bind_some, cond_true, vCell]
    cases inR x.Area 0 2 <;> cases allI (nbB m k x.Neighbors) x.Neighbors <;> rfl
  simp only [sIsValidMap, hL, vMap]
  cases inR ((m.Cells.length : Nat) : Int) 1 6 <;> cases allI (vCell m) m.Cells <;> rfl
end Go.AM
