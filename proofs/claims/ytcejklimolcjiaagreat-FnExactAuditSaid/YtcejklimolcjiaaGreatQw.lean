/-
  Own text: a part of the abstract machine for this seat (Qw). No statement is proved here.
-/
import Derived.Test.YtcejklimolcjiaaGreatQv
set_option linter.unusedVariables false
set_option linter.unusedSimpArgs false
namespace Go.AM
open Go.Proofs
attribute [local simp] ltB_self eqB_refl ix_nat
theorem fold_rule {α : Type} {step : Int × Int → Option (Step (Int × Int) Int)} (xs : List α) (f : Int → α → Int) (hl : xs.length ≤ 9223372036854775806)
    (hs : ∀ (k : Nat) (x : α) (a : Int), xs[k]? = some x → k < xs.length → step (a, (k : Int)) = some (.next (f a x, ((k + 1 : Nat) : Int)))) (he : ∀ a, step (a, ((xs.length : Nat) : Int)) = some (.done a)) (a0 : Int) :
    iter step FU (a0, 0) = some (xs.foldl f a0) := by
  have := iter_for (step := step) xs (fun k (v : Int) => (v, (k : Int))) (fun v x => some (.next (f v x))) some hl
    (fun k x s hx hk => by rw [hs k x s hx hk]; rfl) (fun s => by rw [he]; rfl) a0
  refine Eq.trans (show iter step FU (a0, 0) = _ from this) ?_
  clear this he hs
  induction xs generalizing a0 with
  | nil => rfl
  | cons x xs ih => rw [forL, List.foldl_cons]; exact ih (by simp at hl; omega) _
def nbytes (xs : List TNumberedPacket) : Int := xs.foldl (fun a x => WR (a + ((x.Data.length : Nat) : Int))) 0
theorem nb_i {xs : List TNumberedPacket} (h : xs.length ≤ 1048576) : inumberedBytes xs = some (nbytes xs) := by
  unfold inumberedBytes
  rw [fold_rule xs (fun a x => WR (a + ((x.Data.length : Nat) : Int))) (by omega) (fun k x a hx hk => by
    simp only [inumberedBytes_L1, ltB_lt hk, ix_nat, hx, WR_succ (show k < 9223372036854775807 by omega), Option.bind_some, cond_true]) (fun a => by simp [inumberedBytes_L1])]
  rfl
theorem nb_s {xs : List TNumberedPacket} (h : xs.length ≤ 1048576) : sl30Bytes xs = some (nbytes xs) := by
  unfold sl30Bytes
  rw [fold_rule xs (fun a x => WR (a + ((x.Data.length : Nat) : Int))) (by omega) (fun k x a hx hk => by
    simp only [sl30Bytes_L1, ltB_lt hk, ix_nat, hx, WR_succ (show k < 9223372036854775807 by omega), Option.bind_some, cond_true]) (fun a => by simp [sl30Bytes_L1])]
  rfl
def remQ (q : TQuota) : Int := bif vQuota q then WR (q.Granted - q.Used) else 0
theorem rem_i (q : TQuota) : iRemainingQuota q = some (remQ q) := by simp only [iRemainingQuota, quota_i, Option.bind_some, remQ]; cases vQuota q <;> rfl
theorem rem_s (q : TQuota) : sRemainingQuota q = some (remQ q) := by simp only [sRemainingQuota, quota_s, Option.bind_some, remQ]; cases vQuota q <;> rfl
def ratesB (p : TSubscription) : Bool := inR p.RateLimit 1 1000 && (inR p.BestClass 1 4 && inR p.GrantSize 1 100000)
def vSubs (p : TSubscription) : Bool := ratesB p && allI (fun k x => inR x 0 3 && prevB id p.RoamingNetworks k x) p.RoamingNetworks
theorem subs_i {p : TSubscription} (h : okTSubscription p) : iIsValidSubscription p = some (vSubs p) := by
  have hl := h.1
  have hL : iter (iIsValidSubscription_L1 p) FU 0 = bif allI (fun _ x => inR x 0 3) p.RoamingNetworks then some (asc p.RoamingNetworks) else some false := by
    refine allI_rule p.RoamingNetworks (fun _ x => inR x 0 3) _ (by omega) (fun k x hx hk => ?_) (by simp [iIsValidSubscription_L1, iasc_eq hl])
    simp only [iIsValidSubscription_L1, ltB_lt hk, ix_nat, hx, WR_succ (show k < 9223372036854775807 by omega), inr_i, Option.bind_some, cond_true]
    cases inR x 0 3 <;> rfl
  simp only [iIsValidSubscription, inr_i, Option.bind_some, hL, vSubs, ratesB, ← allI_and, asc]
  cases inR p.RateLimit 1 1000 <;> cases inR p.BestClass 1 4 <;> cases inR p.GrantSize 1 100000 <;> cases allI (fun _ x => inR x 0 3) p.RoamingNetworks <;> rfl
theorem subs_s {p : TSubscription} (h : okTSubscription p) : sIsValidSubscription p = some (vSubs p) := by
  have hl := h.1
  have hL : iter (sIsValidSubscription_L1 p) FU 0 = bif allI (fun k x => inR x 0 3 && prevB id p.RoamingNetworks k x) p.RoamingNetworks then some (ratesB p) else some false := by
    refine allI_rule p.RoamingNetworks _ _ (by omega) (fun k x hx hk => ?_) ?_
    · simp only [sIsValidSubscription_L1, ltB_lt hk, ix_nat, hx, WR_succ (show k < 9223372036854775807 by omega), inr_s, Option.bind_some, cond_true]
      cases k with
      | zero =>
        simp only [prevB, show ltB 0 ((0 : Nat) : Int) = false from by simp [ltB]]
        cases inR x 0 3 <;> rfl
      | succ k =>
        obtain ⟨y, hy, hi⟩ := ix_prev hk (by omega) (by omega)
        simp only [Nat.add_sub_cancel] at hy
        simp only [prevB, hy, hi, hx, ix_nat, show ltB 0 ((k + 1 : Nat) : Int) = true from by simp [ltB], Option.bind_some, id]
        cases inR x 0 3 <;> cases leB x y <;> rfl
    · simp only [sIsValidSubscription_L1, ltB_self, inr_s, Option.bind_some, cond_false, ratesB]
      cases inR p.RateLimit 1 1000 <;> cases inR p.BestClass 1 4 <;> rfl
  simp only [sIsValidSubscription, hL, vSubs]
  cases ratesB p <;> cases allI (fun k x => inR x 0 3 && prevB id p.RoamingNetworks k x) p.RoamingNetworks <;> rfl
def unB (w : TSendWindow) (k : Nat) (x : TNumberedPacket) : Bool := eqB x.Seq (WR (WR (w.Next - ((w.Unacked.length : Nat) : Int)) + (k : Int))) && fitB x.Data.length
def vSender (w : TSendWindow) : Bool := inR w.Next 1 100000 && (leB ((w.Unacked.length : Nat) : Int) 8 && (leB 1 (WR (w.Next - ((w.Unacked.length : Nat) : Int))) && allI (unB w) w.Unacked))
theorem sender_i {w : TSendWindow} (h : okTSendWindow w) : iIsValidSender w = some (vSender w) := by
  have hl := h.1
  have hL : iter (iIsValidSender_L1 w) FU 0 = bif allI (unB w) w.Unacked then some true else some false := by
    refine allI_rule w.Unacked (unB w) _ (by omega) (fun k x hx hk => ?_) (by simp [iIsValidSender_L1])
    simp only [iIsValidSender_L1, ltB_lt hk, ix_nat, hx, WR_succ (show k < 9223372036854775807 by omega), Option.bind_some, cond_true, unB, fitB]
    cases eqB x.Seq (WR (WR (w.Next - ((w.Unacked.length : Nat) : Int)) + (k : Int))) <;> cases ltB 60 ((x.Data.length : Nat) : Int) <;> rfl
  simp only [iIsValidSender, inr_i, Option.bind_some, hL, vSender, lt_le]
  cases inR w.Next 1 100000 <;> cases leB ((w.Unacked.length : Nat) : Int) 8 <;> cases leB 1 (WR (w.Next - ((w.Unacked.length : Nat) : Int))) <;> cases allI (unB w) w.Unacked <;> rfl
theorem sender_s {w : TSendWindow} (h : okTSendWindow w) : sIsValidSender w = some (vSender w) := by
  have hl := h.1
  have hL : iter (sIsValidSender_L1 w) FU 0 = bif allI (unB w) w.Unacked then some (inR w.Next 1 100000 && (leB ((w.Unacked.length : Nat) : Int) 8 && leB 1 (WR (w.Next - ((w.Unacked.length : Nat) : Int))))) else some false := by
    refine allI_rule w.Unacked (unB w) _ (by omega) (fun k x hx hk => ?_) ?_
    · simp only [sIsValidSender_L1, ltB_lt hk, ix_nat, hx, WR_succ (show k < 9223372036854775807 by omega), Option.bind_some, cond_true, unB, fitB]
      cases eqB x.Seq (WR (WR (w.Next - ((w.Unacked.length : Nat) : Int)) + (k : Int))) <;> cases ltB 60 ((x.Data.length : Nat) : Int) <;> rfl
    · simp only [sIsValidSender_L1, ltB_self, inr_s, Option.bind_some, cond_false]
      cases inR w.Next 1 100000 <;> cases leB ((w.Unacked.length : Nat) : Int) 8 <;> rfl
  simp only [sIsValidSender, hL, vSender]
  cases inR w.Next 1 100000 <;> cases leB ((w.Unacked.length : Nat) : Int) 8 <;> cases leB 1 (WR (w.Next - ((w.Unacked.length : Nat) : Int))) <;> cases allI (unB w) w.Unacked <;> rfl
def sameB (a b : List Int) : Bool := strB (bsOf a) (bsOf b)
theorem eqb_i (a b : List Int) : iEqualBytes a b = some (sameB a b) := rfl
theorem eqb_s (a b : List Int) : sEqualBytes a b = some (sameB a b) := rfl
/-- The packet is as submitted. -/
def subB (s : TSession) (x : TNumberedPacket) : Bool := match s.Submitted[(x.Seq - 1).toNat]? with
  | some y => sameB x.Data y.Data
  | none => false
def streamB (s : TSession) : Bool := leB ((s.Submitted.length : Nat) : Int) 24 && (vFit s.Submitted && (vSender s.Window && leB s.Window.Next (WR (((s.Submitted.length : Nat) : Int) + 1))))
def paidB (s : TSession) : Bool := leB (nbytes s.Window.Unacked) (remQ s.Usage)
def keysB (s : TSession) : Bool := (!eqB s.State 1 || vKey s.RootKey) && (!ltB 0 s.PendingSeq || vKey s.Pending.Key)
def vSession (s : TSession) : Bool := vRec s.Record && (vSubs s.Plan && (vPaging s.Page && (vSender s.Window && (vQuota s.Usage && (inR s.State 0 1 && (keysB s && (inR s.PendingSeq 0 999999 && (inR s.Generation 0 999999 && (inR s.Epoch 0 999999 && (inR s.RootKey 0 2147483646 &&
  (inR s.Cell 0 5 && (inR s.Quiet 0 5 && (inR s.Retry 0 3 && (leB ((s.Submitted.length : Nat) : Int) 24 && (vFit s.Submitted && (leB s.Window.Next (WR (((s.Submitted.length : Nat) : Int) + 1)) && (s.Window.Unacked.all (subB s) && paidB s)))))))))))))))))
theorem un_ix {s : TSession} (hs : streamB s = true) {k : Nat} {x : TNumberedPacket} (hx : s.Window.Unacked[k]? = some x) : ∃ y, ix s.Submitted (WR (x.Seq - 1)) = some y ∧ s.Submitted[(x.Seq - 1).toNat]? = some y := by
  simp only [streamB, vSender, Bool.and_eq_true, allI_iff, inR_iff] at hs
  obtain ⟨h1, h2, ⟨⟨h3, h3'⟩, h4, h5, h6⟩, h7⟩ := hs
  have hk := (List.getElem?_eq_some_iff.1 hx).1
  have h8 := h6 k x hx
  simp only [unB, Bool.and_eq_true] at h8
  have h4' : (s.Window.Unacked.length : Int) ≤ 8 := by simpa [leB] using h4
  have h1' : (s.Submitted.length : Int) ≤ 24 := by simpa [leB] using h1
  rw [WR_in (by omega)] at h5
  rw [WR_in (by omega)] at h7
  have h9 := h8.1
  rw [WR_in (n := s.Window.Next - _) (by omega), WR_in (by omega)] at h9
  have h9' : x.Seq = s.Window.Next - s.Window.Unacked.length + k := by simpa [eqB] using h9
  have h5' : 1 ≤ s.Window.Next - (s.Window.Unacked.length : Int) := by simpa [leB] using h5
  have h7' : s.Window.Next ≤ (s.Submitted.length : Int) + 1 := by simpa [leB] using h7
  have hlt : (x.Seq - 1).toNat < s.Submitted.length := by omega
  refine ⟨s.Submitted[(x.Seq - 1).toNat], ?_, List.getElem?_eq_getElem hlt⟩
  have hm : x.Seq - 1 = (((x.Seq - 1).toNat : Nat) : Int) := by omega
  rw [WR_in (by omega)]
  generalize (x.Seq - 1).toNat = m at hm hlt ⊢
  rw [hm, ix_nat, List.getElem?_eq_getElem hlt]
theorem tail_i {s : TSession} (h : okTSession s) (hs : streamB s = true) : iter (iIsValidSession_L1 s) FU 0 = some (s.Window.Unacked.all (subB s) && paidB s) := by
  have hl := h.2.2.1
  have := allI_rule (L := iIsValidSession_L1 s) s.Window.Unacked (fun _ x => subB s x) (some (paidB s)) (by omega) (fun k x hx hk => by
    obtain ⟨y, h1, h2⟩ := un_ix hs hx
    simp only [iIsValidSession_L1, ltB_lt hk, ix_nat, hx, h1, eqb_i, WR_succ (show k < 9223372036854775807 by omega), Option.bind_some, cond_true, subB, h2]
    cases sameB x.Data y.Data <;> rfl) (by simp [iIsValidSession_L1, iOutstandingBytes, nb_i hl, rem_i, paidB])
  rw [this, allI_all]
  cases s.Window.Unacked.all (subB s) <;> rfl
theorem tail_s {s : TSession} (h : okTSession s) (hs : streamB s = true) : iter (sl30Stream_L2 s) FU 0 = some (s.Window.Unacked.all (subB s) && paidB s) := by
  have hl := h.2.2.1
  have := allI_rule (L := sl30Stream_L2 s) s.Window.Unacked (fun _ x => subB s x) (some (paidB s)) (by omega) (fun k x hx hk => by
    obtain ⟨y, h1, h2⟩ := un_ix hs hx
    simp only [sl30Stream_L2, ltB_lt hk, ix_nat, hx, h1, eqb_s, WR_succ (show k < 9223372036854775807 by omega), Option.bind_some, cond_true, subB, h2]
    cases sameB x.Data y.Data <;> rfl) (by simp [sl30Stream_L2, nb_s hl, rem_s, paidB])
  rw [this, allI_all]
  cases s.Window.Unacked.all (subB s) <;> rfl
theorem stream_s {s : TSession} (h : okTSession s) : sl30Stream s = some (streamB s && (s.Window.Unacked.all (subB s) && paidB s)) := by
  have hl := h.2.1.1
  have hL := allI_rule (L := sl30Stream_L1 s) s.Submitted (fun _ x => fitB x.Data.length) (bif leB ((s.Submitted.length : Nat) : Int) 24 && (vSender s.Window && leB s.Window.Next (WR (((s.Submitted.length : Nat) : Int) + 1))) then iter (sl30Stream_L2 s) FU 0 else some false) (by omega) (fun k x hx hk => by
      simp only [sl30Stream_L1, ltB_lt hk, ix_nat, hx, WR_succ (show k < 9223372036854775807 by omega), Option.bind_some, cond_true, fitB]
      cases ltB 60 ((x.Data.length : Nat) : Int) <;> rfl) (by
      simp only [sl30Stream_L1, ltB_self, cond_false, sender_s h.2.2, Option.bind_some, lt_le]
      cases leB ((s.Submitted.length : Nat) : Int) 24 <;> cases vSender s.Window <;> cases leB s.Window.Next (WR (((s.Submitted.length : Nat) : Int) + 1)) <;> rfl)
  rw [allI_all] at hL
  unfold sl30Stream
  rw [hL]
  cases hs : streamB s with
  | true =>
    rw [tail_s h hs]
    simp only [streamB, vFit, Bool.and_eq_true] at hs
    simp [hs.1, hs.2.1, hs.2.2.1, hs.2.2.2]
  | false =>
    have : (leB ((s.Submitted.length : Nat) : Int) 24 && (vSender s.Window && leB s.Window.Next (WR (((s.Submitted.length : Nat) : Int) + 1)))) = false ∨ (s.Submitted.all fun x => fitB x.Data.length) = false := by
      simp only [streamB, vFit] at hs
      revert hs
      cases leB ((s.Submitted.length : Nat) : Int) 24 <;> cases vSender s.Window <;> cases leB s.Window.Next (WR (((s.Submitted.length : Nat) : Int) + 1)) <;> cases (s.Submitted.all fun x => fitB x.Data.length) <;> simp
    rcases this with e | e <;> rw [e]
    · cases (s.Submitted.all fun x => fitB x.Data.length) <;> rfl
    · rfl
theorem st01 (n : Int) : inR n 0 1 = (eqB n 0 || eqB n 1) := by rw [Bool.eq_iff_iff]; simp [inR, leB, eqB]; omega
theorem session_i {s : TSession} (h : okTSession s) : iIsValidSession s = some (vSession s) := by
  have hz := fun hs => tail_i h hs
  simp only [iIsValidSession, rec_i, subs_i h.1, paging_i, sender_i h.2.2, quota_i, key_i, inr_i, fit_i h.2.1.1, Option.bind_some, vSession, keysB, st01, lt_le 24, lt_le (WR (((s.Submitted.length : Nat) : Int) + 1))]
  simp only [streamB] at hz
  revert hz
  generalize iter (iIsValidSession_L1 s) FU 0 = z
  cases vRec s.Record
  · intro _; rfl
  cases vSubs s.Plan
  · intro _; rfl
  cases vPaging s.Page
  · intro _; rfl
  cases vSender s.Window
  · intro _; rfl
  cases vQuota s.Usage
  · intro _; rfl
  cases eqB s.State 0 <;> cases eqB s.State 1 <;> try (intro _; rfl)
  all_goals
    cases vKey s.RootKey <;> cases ltB 0 s.PendingSeq <;> cases vKey s.Pending.Key <;> try (intro _; rfl)
  all_goals
    cases inR s.PendingSeq 0 999999 <;> cases inR s.Generation 0 999999 <;> cases inR s.Epoch 0 999999 <;> cases inR s.RootKey 0 2147483646 <;> try (intro _; rfl)
  all_goals
    cases inR s.Cell 0 5 <;> cases inR s.Quiet 0 5 <;> cases inR s.Retry 0 3 <;> try (intro _; rfl)
  all_goals
    cases leB ((s.Submitted.length : Nat) : Int) 24 <;> cases vFit s.Submitted <;> cases leB s.Window.Next (WR (((s.Submitted.length : Nat) : Int) + 1)) <;> intro hz <;> first | rfl | exact hz rfl
theorem session_s {s : TSession} (h : okTSession s) : sIsValidSession s = some (vSession s) := by
  have : vSession s = (inR s.State 0 1 && (keysB s && (vRec s.Record && (vSubs s.Plan && (vPaging s.Page && (vQuota s.Usage && ((streamB s && (s.Window.Unacked.all (subB s) && paidB s)) && (inR s.PendingSeq 0 999999 && (inR s.Generation 0 999999 && (inR s.Epoch 0 999999 && (inR s.RootKey 0 2147483646 && (inR s.Cell 0 5 && (inR s.Quiet 0 5 && inR s.Retry 0 3))))))))))))) := by
    simp only [vSession, streamB]; ac_rfl
  rw [this]
  simp only [sIsValidSession, rec_s, subs_s h.1, paging_s, quota_s, key_s, inr_s, stream_s h, Option.bind_some, keysB, st01]
  cases eqB s.State 0 <;> cases eqB s.State 1 <;> cases vKey s.RootKey <;> cases ltB 0 s.PendingSeq <;> cases vKey s.Pending.Key <;> try rfl
  all_goals
    cases vRec s.Record <;> cases vSubs s.Plan <;> cases vPaging s.Page <;> cases vQuota s.Usage <;> cases (streamB s && (s.Window.Unacked.all (subB s) && paidB s)) <;> try rfl
  all_goals
    cases inR s.PendingSeq 0 999999 <;> cases inR s.Generation 0 999999 <;> cases inR s.Epoch 0 999999 <;> cases inR s.RootKey 0 2147483646 <;> try rfl
  all_goals
    cases inR s.Cell 0 5 <;> cases inR s.Quiet 0 5 <;> rfl
end Go.AM
