/-
  Own text: a part of the abstract machine for this seat (Qv). No statement is proved here.
-/
import Derived.Test.YtcejklimolcjiaaGreatHes
import Derived.Test.YtcejklimolcjiaaGreatQem
set_option linter.unusedVariables false
set_option linter.unusedSimpArgs false
namespace Go.AM
open Go.Proofs
attribute [local simp] ltB_self eqB_refl ix_nat
/-- All elements, with their places. -/
def allI {α : Type} (p : Nat → α → Bool) (xs : List α) : Bool := xs.zipIdx.all (fun y => p y.2 y.1)
theorem allI_iff {α : Type} {p : Nat → α → Bool} {xs : List α} : allI p xs = true ↔ ∀ (k : Nat) (x : α), xs[k]? = some x → p k x = true := by
  unfold allI
  rw [List.all_eq_true]
  constructor
  · intro h k x hx
    exact h (x, k) (by rw [List.mem_zipIdx_iff_getElem?]; simpa using hx)
  · rintro h ⟨x, k⟩ hm
    rw [List.mem_zipIdx_iff_getElem?] at hm
    exact h k x (by simpa using hm)
theorem allI_congr {α : Type} {p q : Nat → α → Bool} {xs : List α} (h : ∀ (k : Nat) (x : α), xs[k]? = some x → p k x = q k x) : allI p xs = allI q xs := by
  rw [Bool.eq_iff_iff, allI_iff, allI_iff]
  constructor
  · intro g k x hx; rw [← h k x hx]; exact g k x hx
  · intro g k x hx; rw [h k x hx]; exact g k x hx
theorem allI_and {α : Type} {p q : Nat → α → Bool} {xs : List α} : (allI p xs && allI q xs) = allI (fun k x => p k x && q k x) xs := by
  rw [Bool.eq_iff_iff, Bool.and_eq_true, allI_iff, allI_iff, allI_iff]
  constructor
  · rintro ⟨h1, h2⟩ k x hx; simp [h1 k x hx, h2 k x hx]
  · intro h
    exact ⟨fun k x hx => by have := h k x hx; simp at this; exact this.1, fun k x hx => by have := h k x hx; simp at this; exact this.2⟩
theorem allI_all {α : Type} {p : α → Bool} {xs : List α} : allI (fun _ x => p x) xs = xs.all p := by
  rw [Bool.eq_iff_iff, allI_iff, List.all_eq_true]
  constructor
  · intro h x hx
    obtain ⟨k, hk, rfl⟩ := List.getElem_of_mem hx
    exact h k _ (List.getElem?_eq_getElem hk)
  · intro h k x hx; exact h x (List.mem_of_getElem? hx)
theorem allI_rule {α : Type} {L : Int → Option (Step Int Bool)} (xs : List α) (p : Nat → α → Bool) (c : Option Bool) (hl : xs.length ≤ 9223372036854775806)
    (hs : ∀ (k : Nat) (x : α), xs[k]? = some x → k < xs.length → L (k : Int) = bif p k x then some (.next ((k + 1 : Nat) : Int)) else some (.done false)) (he : L ((xs.length : Nat) : Int) = dn c) :
    iter L FU 0 = bif allI p xs then c else some false := allK xs p c hl hs he
theorem ix_prev {α : Type} {xs : List α} {k : Nat} (hk : k < xs.length) (h0 : 0 < k) (hl : xs.length ≤ 9223372036854775806) : ∃ y, xs[k - 1]? = some y ∧ ix xs (WR ((k : Int) - 1)) = some y := by
  have h1 : k - 1 < xs.length := by omega
  refine ⟨xs[k - 1], List.getElem?_eq_getElem h1, ?_⟩
  rw [WR_in (by omega), show ((k : Int) - 1) = ((k - 1 : Nat) : Int) from by omega, ix_nat, List.getElem?_eq_getElem h1]
/-- The element ahead is below. -/
def prevB {α : Type} (key : α → Int) (xs : List α) (k : Nat) (x : α) : Bool := match k with
  | 0 => true
  | j + 1 => match xs[j]? with
    | some y => !leB (key x) (key y)
    | none => false
def asc (xs : List Int) : Bool := allI (prevB id xs) xs
theorem inr_i (a b c : Int) : iInRange a b c = some (inR a b c) := by
  unfold iInRange inR
  cases leB b a <;> rfl
theorem inr_s (a b c : Int) : sl1In a b c = some (inR a b c) := by
  unfold sl1In inR
  cases leB b a <;> rfl
theorem iasc_eq {xs : List Int} (h : xs.length ≤ 1048576) : iisAscending xs = some (asc xs) := by
  have key : ∀ (n m : Nat) (j : Nat), j + n = xs.length → 1 ≤ j → n < m → ∃ b, iter (iisAscending_L1 xs) m (j : Int) = some b ∧ (b = true ↔ ∀ k x, j ≤ k → xs[k]? = some x → prevB id xs k x = true) := by
    intro n
    induction n with
    | zero =>
      intro m j hj h1 hm
      cases m with
      | zero => omega
      | succ m =>
        simp only [iter, iisAscending_L1]
        rw [show ltB (j : Int) ((xs.length : Nat) : Int) = false from by simp [ltB]; omega]
        refine ⟨true, rfl, fun _ k x hk hx => ?_, fun _ => rfl⟩
        have := (List.getElem?_eq_some_iff.1 hx).1
        omega
    | succ n ih =>
      intro m j hj h1 hm
      cases m with
      | zero => omega
      | succ m =>
        have hjl : j < xs.length := by omega
        obtain ⟨y, hy, hi⟩ := ix_prev hjl (by omega) (by omega)
        simp only [iter, iisAscending_L1]
        rw [ltB_lt hjl, hi, ix_nat, List.getElem?_eq_getElem hjl]
        simp only [Option.bind_some, cond_true]
        obtain ⟨i, rfl⟩ : ∃ i, j = i + 1 := ⟨j - 1, by omega⟩
        simp only [Nat.add_sub_cancel] at hy
        cases hle : leB xs[i + 1] y with
        | true =>
          refine ⟨false, rfl, (fun h => by cases h), fun hh => ?_⟩
          have := hh (i + 1) _ (Nat.le_refl _) (List.getElem?_eq_getElem hjl)
          simp [prevB, hy, hle] at this
        | false =>
          simp only [cond_false]
          rw [WR_succ (show i + 1 < 9223372036854775807 by omega)]
          obtain ⟨b, hb, hi⟩ := ih m (i + 1 + 1) (by omega) (by omega) (by omega)
          refine ⟨b, hb, hi.trans ⟨fun hh k x hk hx => ?_, fun hh k x hk hx => hh k x (by omega) hx⟩⟩
          by_cases e : k = i + 1
          · subst e
            rw [List.getElem?_eq_getElem hjl] at hx; cases hx
            simp [prevB, hy, hle]
          · exact hh k x (by omega) hx
  unfold iisAscending
  cases hx : xs with
  | nil =>
    have : FU = (FU - 1) + 1 := by have := FU_big; omega
    rw [this, iter]
    simp [iisAscending_L1, dn, ltB, asc, allI]
  | cons a l =>
    rw [← hx]
    obtain ⟨b, hb, hi⟩ := key (xs.length - 1) FU 1 (by have : 0 < xs.length := (by rw [hx]; simp); omega) (Nat.le_refl _) (by have := FU_big; omega)
    rw [show (1 : Int) = ((1 : Nat) : Int) from rfl, hb]
    congr 1
    rw [Bool.eq_iff_iff, hi, asc, allI_iff]
    constructor
    · intro hh k x hk
      cases k with
      | zero => rfl
      | succ k => exact hh _ x (by omega) hk
    · intro hh k x _ hk; exact hh k x hk
/-! what is valid -/
def vKey (k : Int) : Bool := inR k 1 2147483646
theorem key_i (k : Int) : iIsValidKey k = some (vKey k) := by simp only [iIsValidKey, inr_i, Option.bind_some, vKey]
theorem key_s (k : Int) : sIsValidKey k = some (vKey k) := by simp only [sIsValidKey, inr_s, Option.bind_some, vKey]
def vSID (x : TSubscriberID) : Bool := inR x.Network 0 3 && inR x.Number 0 99
theorem sid_i (x : TSubscriberID) : iIsValidSubscriberID x = some (vSID x) := by
  simp only [iIsValidSubscriberID, inr_i, Option.bind_some, vSID]; cases inR x.Network 0 3 <;> rfl
theorem sid_s (x : TSubscriberID) : sIsValidSubscriberID x = some (vSID x) := by
  simp only [sIsValidSubscriberID, inr_s, Option.bind_some, vSID]; cases inR x.Network 0 3 <;> rfl
def vUSIM (x : TUSIM) : Bool := vSID x.ID && (vKey x.Key && inR x.LastSeq 0 999999)
theorem usim_i (x : TUSIM) : iIsValidUSIM x = some (vUSIM x) := by
  simp only [iIsValidUSIM, sid_i, key_i, inr_i, Option.bind_some, vUSIM]; cases vSID x.ID <;> cases vKey x.Key <;> rfl
theorem usim_s (x : TUSIM) : sIsValidUSIM x = some (vUSIM x) := by
  simp only [sIsValidUSIM, sid_s, key_s, inr_s, Option.bind_some, vUSIM]; cases vSID x.ID <;> cases vKey x.Key <;> rfl
def vRec (x : TSubscriberRecord) : Bool := vSID x.ID && (vKey x.Key && inR x.Seq 0 999999)
theorem rec_i (x : TSubscriberRecord) : iIsValidSubscriberRecord x = some (vRec x) := by
  simp only [iIsValidSubscriberRecord, sid_i, key_i, inr_i, Option.bind_some, vRec]; cases vSID x.ID <;> cases vKey x.Key <;> rfl
theorem rec_s (x : TSubscriberRecord) : sIsValidSubscriberRecord x = some (vRec x) := by
  simp only [sIsValidSubscriberRecord, sid_s, key_s, inr_s, Option.bind_some, vRec]; cases vSID x.ID <;> cases vKey x.Key <;> rfl
def vPaging (x : TPagingState) : Bool := inR x.Area 0 2 && (inR x.Attempt 0 4 && inR x.Wait 0 3)
theorem paging_i (x : TPagingState) : iIsValidPaging x = some (vPaging x) := by
  simp only [iIsValidPaging, inr_i, Option.bind_some, vPaging]; cases inR x.Area 0 2 <;> cases inR x.Attempt 0 4 <;> rfl
theorem paging_s (x : TPagingState) : sIsValidPaging x = some (vPaging x) := by
  simp only [sIsValidPaging, inr_s, Option.bind_some, vPaging]; cases inR x.Area 0 2 <;> cases inR x.Attempt 0 4 <;> rfl
def vPool (x : TServerPool) : Bool := inR x.Size 1 6 && inR x.UpMask 0 (WR ((bShl .i64 1 x.Size) - 1))
theorem pool_i (x : TServerPool) : iIsValidPool x = some (vPool x) := by
  simp only [iIsValidPool, inr_i, Option.bind_some, vPool]
  cases h : inR x.Size 1 6 with
  | false => rfl
  | true => rw [show leB 0 x.Size = true from by rw [inR_iff] at h; simp [leB]; omega]; rfl
theorem pool_s (x : TServerPool) : sIsValidPool x = some (vPool x) := by
  simp only [sIsValidPool, inr_s, Option.bind_some, vPool]
  cases h : inR x.Size 1 6 with
  | false => rfl
  | true => rw [show leB 0 x.Size = true from by rw [inR_iff] at h; simp [leB]; omega]; rfl
def vQuota (x : TQuota) : Bool := leB 0 x.SessionID && (leB 0 x.Used && (leB x.Used x.Granted && leB x.Granted 100000))
theorem quota_i (x : TQuota) : iIsValidQuota x = some (vQuota x) := by
  simp only [iIsValidQuota, Option.bind_some, vQuota]; cases leB 0 x.SessionID <;> cases leB 0 x.Used <;> cases leB x.Used x.Granted <;> rfl
theorem quota_s (x : TQuota) : sIsValidQuota x = some (vQuota x) := by
  have : vQuota x = (leB 0 x.SessionID && (inR x.Granted 0 100000 && inR x.Used 0 x.Granted)) := by
    rw [Bool.eq_iff_iff]; simp [vQuota, inR, leB]; omega
  rw [this]
  simp only [sIsValidQuota, inr_s, Option.bind_some]; cases leB 0 x.SessionID <;> cases inR x.Granted 0 100000 <;> rfl
def fitB (n : Nat) : Bool := !ltB 60 (n : Int)
def vFit (xs : List TPayload) : Bool := xs.all fun x => fitB x.Data.length
theorem fit_i {xs : List TPayload} (h : xs.length ≤ 1048576) : ifitPayload xs = some (vFit xs) :=
  all_rule xs (fun x => fitB x.Data.length) (by omega) (fun k x hx hk => by
    simp only [ifitPayload_L1, ltB_lt hk, ix_nat, hx, WR_succ (show k < 9223372036854775807 by omega), Option.bind_some, cond_true, fitB]
    cases ltB 60 ((x.Data.length : Nat) : Int) <;> rfl) (by simp [ifitPayload_L1, dn])
def pendB (r : TReceiveWindow) (k : Nat) (x : TNumberedPacket) : Bool := inR x.Seq (WR (r.Next + 1)) (WR (WR (r.Next + 8) - 1)) && (prevB TNumberedPacket.Seq r.Pending k x && fitB x.Data.length)
def vRecv (r : TReceiveWindow) : Bool := eqB r.Next (WR (((r.Delivered.length : Nat) : Int) + 1)) && (leB ((r.Delivered.length : Nat) : Int) 24 && (vFit r.Delivered && (leB ((r.Pending.length : Nat) : Int) 8 && allI (pendB r) r.Pending)))
theorem lt_le (a b : Int) : ltB a b = !leB b a := by rw [Bool.eq_iff_iff]; simp [ltB, leB]
theorem recv_i {r : TReceiveWindow} (h1 : r.Delivered.length ≤ 1048576) (h2 : r.Pending.length ≤ 1048576) : iIsValidReceiver r = some (vRecv r) := by
  have hL : iter (iIsValidReceiver_L1 r) FU 0 = bif allI (pendB r) r.Pending then some true else some false := by
    refine allI_rule r.Pending (pendB r) (some true) (by omega) (fun k x hx hk => ?_) (by simp [iIsValidReceiver_L1])
    simp only [iIsValidReceiver_L1, ltB_lt hk, ix_nat, hx, WR_succ (show k < 9223372036854775807 by omega), inr_i, Option.bind_some, cond_true, pendB, fitB]
    cases k with
    | zero =>
      simp only [prevB, show ltB 0 ((0 : Nat) : Int) = false from by simp [ltB]]
      cases ltB 60 ((x.Data.length : Nat) : Int) <;> cases inR x.Seq (WR (r.Next + 1)) (WR (WR (r.Next + 8) - 1)) <;> rfl
    | succ k =>
      obtain ⟨y, hy, hi⟩ := ix_prev hk (by omega) (by omega)
      simp only [Nat.add_sub_cancel] at hy
      simp only [prevB, hy, hi, show ltB 0 ((k + 1 : Nat) : Int) = true from by simp [ltB], Option.bind_some]
      cases ltB 60 ((x.Data.length : Nat) : Int) <;> cases inR x.Seq (WR (r.Next + 1)) (WR (WR (r.Next + 8) - 1)) <;> cases leB x.Seq y.Seq <;> rfl
  simp only [iIsValidReceiver, fit_i h1, Option.bind_some, hL, vRecv, lt_le 24, lt_le 8]
  cases eqB r.Next (WR (((r.Delivered.length : Nat) : Int) + 1)) <;> cases leB ((r.Delivered.length : Nat) : Int) 24 <;> cases vFit r.Delivered <;> cases leB ((r.Pending.length : Nat) : Int) 8 <;> cases allI (pendB r) r.Pending <;> rfl
theorem recv_s {r : TReceiveWindow} (h1 : r.Delivered.length ≤ 1048576) (h2 : r.Pending.length ≤ 1048576) : sIsValidReceiver r = some (vRecv r) := by
  have hF : iter (sIsValidReceiver_L2 r) FU 0 = bif allI (fun _ x => fitB x.Data.length) r.Delivered then some (eqB r.Next (WR (((r.Delivered.length : Nat) : Int) + 1)) && (leB ((r.Delivered.length : Nat) : Int) 24 && leB ((r.Pending.length : Nat) : Int) 8)) else some false := by
    refine allI_rule r.Delivered (fun _ x => fitB x.Data.length) _ (by omega) (fun k x hx hk => ?_) ?_
    · simp only [sIsValidReceiver_L2, ltB_lt hk, ix_nat, hx, WR_succ (show k < 9223372036854775807 by omega), Option.bind_some, cond_true, fitB]
      cases ltB 60 ((x.Data.length : Nat) : Int) <;> rfl
    · simp only [sIsValidReceiver_L2, ltB_self, cond_false]
      cases eqB r.Next (WR (((r.Delivered.length : Nat) : Int) + 1)) <;> cases leB ((r.Delivered.length : Nat) : Int) 24 <;> rfl
  have hL : iter (sIsValidReceiver_L1 r) FU 0 = bif allI (pendB r) r.Pending then iter (sIsValidReceiver_L2 r) FU 0 else some false := by
    refine allI_rule r.Pending (pendB r) _ (by omega) (fun k x hx hk => ?_) (by simp [sIsValidReceiver_L1])
    simp only [sIsValidReceiver_L1, ltB_lt hk, ix_nat, hx, WR_succ (show k < 9223372036854775807 by omega), inr_s, Option.bind_some, cond_true, pendB, fitB]
    cases k with
    | zero =>
      simp only [prevB, show ltB 0 ((0 : Nat) : Int) = false from by simp [ltB]]
      cases ltB 60 ((x.Data.length : Nat) : Int) <;> cases inR x.Seq (WR (r.Next + 1)) (WR (WR (r.Next + 8) - 1)) <;> rfl
    | succ k =>
      obtain ⟨y, hy, hi⟩ := ix_prev hk (by omega) (by omega)
      simp only [Nat.add_sub_cancel] at hy
      simp only [prevB, hy, hi, show ltB 0 ((k + 1 : Nat) : Int) = true from by simp [ltB], Option.bind_some]
      cases ltB 60 ((x.Data.length : Nat) : Int) <;> cases inR x.Seq (WR (r.Next + 1)) (WR (WR (r.Next + 8) - 1)) <;> cases leB x.Seq y.Seq <;> rfl
  rw [allI_all] at hF
  simp only [sIsValidReceiver, hL, hF, vRecv, vFit]
  cases eqB r.Next (WR (((r.Delivered.length : Nat) : Int) + 1)) <;> cases leB ((r.Delivered.length : Nat) : Int) 24 <;> cases (r.Delivered.all fun x => fitB x.Data.length) <;> cases leB ((r.Pending.length : Nat) : Int) 8 <;> cases allI (pendB r) r.Pending <;> rfl
def vDevice (d : TDevice) : Bool := vUSIM d.Card && (inR d.State 0 3 && (inR d.Cell 0 5 && (inR d.Generation 0 999999 && (inR d.Epoch 0 999999 && (inR d.RootKey 0 2147483646 && ((!inR d.State 2 3 || vKey d.RootKey) && (inR d.Wait 0 3 && vRecv d.Receiver)))))))
theorem st23 (n : Int) : inR n 2 3 = (eqB n 2 || eqB n 3) := by rw [Bool.eq_iff_iff]; simp [inR, leB, eqB]; omega
theorem device_i {d : TDevice} (h1 : d.Receiver.Delivered.length ≤ 1048576) (h2 : d.Receiver.Pending.length ≤ 1048576) : iIsValidDevice d = some (vDevice d) := by
  simp only [iIsValidDevice, usim_i, inr_i, key_i, recv_i h1 h2, Option.bind_some, vDevice, st23]
  cases vUSIM d.Card <;> cases inR d.State 0 3 <;> cases inR d.Cell 0 5 <;> try rfl
  cases inR d.Generation 0 999999 <;> cases inR d.Epoch 0 999999 <;> cases inR d.RootKey 0 2147483646 <;> try rfl
  cases eqB d.State 2 <;> cases eqB d.State 3 <;> cases vKey d.RootKey <;> cases inR d.Wait 0 3 <;> rfl
theorem device_s {d : TDevice} (h1 : d.Receiver.Delivered.length ≤ 1048576) (h2 : d.Receiver.Pending.length ≤ 1048576) : sIsValidDevice d = some (vDevice d) := by
  simp only [sIsValidDevice, usim_s, inr_s, key_s, recv_s h1 h2, Option.bind_some, vDevice]
  cases inR d.State 2 3 <;> cases vKey d.RootKey <;> cases vUSIM d.Card <;> cases inR d.State 0 3 <;> cases inR d.Cell 0 5 <;> cases inR d.Generation 0 999999 <;> try rfl
  all_goals (cases inR d.Epoch 0 999999 <;> cases inR d.RootKey 0 2147483646 <;> cases inR d.Wait 0 3 <;> rfl)
end Go.AM
