/-
  Own text: a part of the abstract machine for this seat (Gks). No statement is proved here.
-/
import Derived.Test.YtghkejhhneijlaaGreatGki
set_option linter.unusedVariables false
namespace Go.AM
open Go.Proofs
attribute [local irreducible] AWN NS AWO AWR AWC DR Weak iterQ
set_option maxRecDepth 100000
set_option maxHeartbeats 4000000
def sl1In (a0 : Int) (a1 : Int) (a2 : Int) : Option Bool :=
  Option.bind (bif leB a1 a0 then (some (leB a0 a2)) else (some false)) fun (v1 : Bool) => some v1
theorem sl1In_c {a0 : Int} {a1 : Int} {a2 : Int} {r : Bool} (H : sl1In a0 a1 a2 = some r) : Fn Tryz.prog 52 [aI a0, aI a1, aI a2] [.c (.d (.b r))] := by
  refine fn_in Tryz.func52 rfl (by kernel_rfl) Tryz.ntmps52 rfl rfl rfl ?_
  refine wk ?_
  obtain ⟨v1, Hj, H⟩ := ob H
  refine awr_join ⟨[(6, tB v1)], [], 0⟩ ?_ ?_
  · have H := Hj
    refine wk ?_
    refine g2 rfl rfl rfl (fun h => ?_) (fun h => ?_)
    · have H := bt h H
      refine wk ?_
      cases H
      exact weak_of ⟨rfl, rfl, trivial⟩ trivial
    · have H := bf h H
      refine wk ?_
      cases H
      exact weak_of ⟨rfl, rfl, trivial⟩ trivial
  refine wk ?_
  cases H
  exact fin_ret (.cons (.tmp rfl) .nil) rfl rfl rfl
def sMin (a0 : Int) (a1 : Int) : Option Int :=
  bif ltB a1 a0 then (some a1) else (some a0)
theorem sMin_c {a0 : Int} {a1 : Int} {r : Int} (H : sMin a0 a1 = some r) : Fn Tryz.prog 53 [aI a0, aI a1] [.c (.d (.i .i64 r))] := by
  refine fn_in Tryz.func53 rfl (by kernel_rfl) Tryz.ntmps53 rfl rfl rfl ?_
  refine wk ?_
  refine awc_cond rfl (fun h => ?_) (fun h => ?_)
  · have H := bt h H
    refine wk ?_
    cases H
    exact fin_ret (.cons (.tmp rfl) .nil) rfl rfl rfl
  · have H := bf h H
    refine wk ?_
    cases H
    exact fin_ret (.cons (.tmp rfl) .nil) rfl rfl rfl
def sl34Has (a0 : TNetwork) (a1 : Int) : Option Bool :=
  Option.bind (sMin ((a0.Devices.length : Nat) : Int) ((a0.Sessions.length : Nat) : Int)) fun r1 => Option.bind (sl1In a1 0 (WR (r1 - 1))) fun r2 => some r2
theorem sl34Has_c {a0 : TNetwork} {a1 : Int} {r : Bool} (H : sl34Has a0 a1 = some r) : Fn Tryz.prog 20 [.agg (eTNetwork a0), aI a1] [.c (.d (.b r))] := by
  refine fn_in Tryz.func20 rfl (by kernel_rfl) Tryz.ntmps20 rfl rfl rfl ?_
  refine wk ?_
  obtain ⟨r1, hr1, H⟩ := ob H
  refine awr_n rfl (ca rfl rfl rfl (sMin_c hr1) trivial rfl rfl rfl rfl) ?_
  refine wk ?_
  obtain ⟨r2, hr2, H⟩ := ob H
  refine awr_n rfl (ca rfl rfl rfl (sl1In_c hr2) trivial rfl rfl rfl rfl) ?_
  refine wk ?_
  cases H
  exact fin_ret (.cons (.tmp rfl) .nil) rfl rfl rfl
def sEqualBytes (a0 : List Int) (a1 : List Int) : Option Bool :=
  some (strB (bsOf a0) (bsOf a1))
theorem sEqualBytes_c {a0 : List Int} {a1 : List Int} {r : Bool} (H : sEqualBytes a0 a1 = some r) : Fn Tryz.prog 78 [aL (a0.map eU8), aL (a1.map eU8)] [.c (.d (.b r))] := by
  refine fn_in Tryz.func78 rfl (by kernel_rfl) Tryz.ntmps78 rfl rfl rfl ?_
  refine wk ?_
  cases H
  exact fin_ret (.cons (.tmp rfl) .nil) rfl rfl rfl
def sl15Same_L1 (a0 : List TPayload) (a1 : List TPayload) : Int → Option (Step (Int) (Bool))
  | v1 => bif ltB v1 ((a0.length : Nat) : Int) then (Option.bind (ix a0 v1) fun x2 => Option.bind (ix a1 v1) fun x3 => Option.bind (sEqualBytes x2.Data x3.Data) fun r4 => bif !r4 then (dn (some false)) else (some (.next (WR (v1 + 1))))) else (dn (some true))
def sl15Same (a0 : List TPayload) (a1 : List TPayload) : Option Bool :=
  bif !eqB ((a0.length : Nat) : Int) ((a1.length : Nat) : Int) then (some false) else (iter (sl15Same_L1 a0 a1) FU 0)
theorem sl15Same_c {a0 : List TPayload} {a1 : List TPayload} {r : Bool} (H : sl15Same a0 a1 = some r) : Fn Tryz.prog 54 [aL (a0.map eTPayload), aL (a1.map eTPayload)] [.c (.d (.b r))] := by
  refine fn_in Tryz.func54 rfl (by kernel_rfl) Tryz.ntmps54 rfl rfl rfl ?_
  refine wkd ?_
  refine awc_cond rfl (fun h => ?_) (fun h => ?_)
  · have H := bt h H
    refine wkd ?_
    cases H
    exact fin_ret (.cons (.tmp rfl) .nil) rfl rfl rfl
  · have H := bf h H
    refine wkd ?_
    refine awc_iter (fun (q : Int) => ⟨[(0, .v (.c (.d false (.l (a0.map eTPayload))))), (1, .v (.c (.d false (.l (a1.map eTPayload))))), (5, tI q)], [], 0⟩) H (weak_of ⟨rfl, rfl, rfl, rfl, rfl, rfl, trivial⟩ trivial) ?_
    rintro v1 o H
    try dsimp only
    refine wkd ?_
    refine awc_cond rfl (fun h => ?_) (fun h => ?_)
    · have H := bt h H
      refine wkd ?_
      obtain ⟨x2, hx2, H⟩ := ob H
      refine dr_n rfl (xdT (enc := eTPayload) hx2 (fun _ => rfl) rfl rfl rfl) ?_
      refine wkd ?_
      obtain ⟨x3, hx3, H⟩ := ob H
      refine dr_n rfl (xdT (enc := eTPayload) hx3 (fun _ => rfl) rfl rfl rfl) ?_
      refine wkd ?_
      obtain ⟨r4, hr4, H⟩ := ob H
      refine dr_n rfl (ca rfl rfl rfl (sEqualBytes_c hr4) trivial rfl rfl rfl rfl) ?_
      refine wkd ?_
      refine awc_cond rfl (fun h => ?_) (fun h => ?_)
      · have H := bt h H
        refine wkd ?_
        obtain ⟨r0, Hd, rfl⟩ := dnE H
        refine iq_r (fun hq => ?_)
        have H := Hd.trans (congrArg some hq)
        refine wkd ?_
        cases H
        exact fin_ret (.cons (.tmp rfl) .nil) rfl rfl rfl
      · have H := bf h H
        refine wkd ?_
        cases H
        refine iq_n ?_
        exact weak_of ⟨rfl, rfl, rfl, rfl, rfl, rfl, trivial⟩ trivial
    · have H := bf h H
      refine wkd ?_
      obtain ⟨r0, Hd, rfl⟩ := dnE H
      refine iq_e (fun hq => ?_)
      have H := Hd.trans (congrArg some hq)
      refine wkd ?_
      cases H
      exact fin_ret (.cons (.tmp rfl) .nil) rfl rfl rfl
def sIsPrefixOf (a0 : List TPayload) (a1 : List TPayload) : Option Bool :=
  Option.bind (bif leB ((a0.length : Nat) : Int) ((a1.length : Nat) : Int) then (bif slOk a1 0 ((a0.length : Nat) : Int) then (Option.bind (sl15Same a0 (a1.take (((a0.length : Nat) : Int)).toNat)) fun r2 => some r2) else none) else (some false)) fun (v1 : Bool) => some v1
theorem sIsPrefixOf_c {a0 : List TPayload} {a1 : List TPayload} {r : Bool} (H : sIsPrefixOf a0 a1 = some r) : Fn Tryz.prog 21 [aL (a0.map eTPayload), aL (a1.map eTPayload)] [.c (.d (.b r))] := by
  refine fn_in Tryz.func21 rfl (by kernel_rfl) Tryz.ntmps21 rfl rfl rfl ?_
  refine wk ?_
  obtain ⟨v1, Hj, H⟩ := ob H
  refine awr_join ⟨[(4, tB v1)], [], 0⟩ ?_ ?_
  · have H := Hj
    refine wk ?_
    refine g2 rfl rfl rfl (fun h => ?_) (fun h => ?_)
    · have H := bt h H
      refine wk ?_
      obtain ⟨h, H⟩ := rq H
      refine awr_ng rfl rfl rfl rfl (cdhT (enc := eTPayload) h (fun _ => rfl) rfl rfl rfl) ?_
      refine wk ?_
      obtain ⟨r2, hr2, H⟩ := ob H
      refine awr_ng rfl rfl rfl rfl (ca rfl rfl rfl (sl15Same_c hr2) trivial rfl rfl rfl rfl) ?_
      refine wk ?_
      cases H
      exact weak_of ⟨rfl, rfl, trivial⟩ trivial
    · have H := bf h H
      refine wk ?_
      cases H
      exact weak_of ⟨rfl, rfl, trivial⟩ trivial
  refine wk ?_
  cases H
  exact fin_ret (.cons (.tmp rfl) .nil) rfl rfl rfl
def sDeliveredInOrder (a0 : TNetwork) (a1 : Int) : Option Bool :=
  Option.bind (sl34Has a0 a1) fun r1 => Option.bind (bif r1 then (Option.bind (ix a0.Devices a1) fun x3 => Option.bind (ix a0.Sessions a1) fun x4 => Option.bind (sIsPrefixOf x3.Receiver.Delivered x4.Submitted) fun r5 => some r5) else (some false)) fun (v2 : Bool) => some v2
theorem sDeliveredInOrder_c {a0 : TNetwork} {a1 : Int} {r : Bool} (H : sDeliveredInOrder a0 a1 = some r) : Fn Tryz.prog 7 [.agg (eTNetwork a0), aI a1] [.c (.d (.b r))] := by
  refine fn_in Tryz.func7 rfl (by kernel_rfl) Tryz.ntmps7 rfl rfl rfl ?_
  refine wkd ?_
  obtain ⟨r1, hr1, H⟩ := ob H
  refine dr_n rfl (ca rfl rfl rfl (sl34Has_c hr1) trivial rfl rfl rfl rfl) ?_
  refine wkd ?_
  obtain ⟨v2, Hj, H⟩ := ob H
  refine dr_join ⟨[(4, tB v2)], [], 0⟩ ?_ ?_
  · have H := Hj
    refine wkd ?_
    refine dg2 rfl rfl rfl (fun h => ?_) (fun h => ?_)
    · have H := bt h H
      refine wkd ?_
      obtain ⟨x3, hx3, H⟩ := ob H
      refine dr_ng rfl rfl rfl rfl (xdT (enc := eTDevice) hx3 (fun _ => rfl) rfl rfl rfl) ?_
      refine wkd ?_
      obtain ⟨x4, hx4, H⟩ := ob H
      refine dr_ng rfl rfl rfl rfl (xdT (enc := eTSession) hx4 (fun _ => rfl) rfl rfl rfl) ?_
      refine wkd ?_
      obtain ⟨r5, hr5, H⟩ := ob H
      refine dr_ng rfl rfl rfl rfl (ca rfl rfl rfl (sIsPrefixOf_c hr5) trivial rfl rfl rfl rfl) ?_
      refine wkd ?_
      cases H
      exact weak_of ⟨rfl, rfl, trivial⟩ trivial
    · have H := bf h H
      refine wkd ?_
      cases H
      exact weak_of ⟨rfl, rfl, trivial⟩ trivial
  refine wkd ?_
  cases H
  exact fin_ret (.cons (.tmp rfl) .nil) rfl rfl rfl
def sl34Account (a0 : TNetwork) (a1 : Int) : Option Bool :=
  Option.bind (sMin ((a0.Accounts.length : Nat) : Int) ((a0.Sessions.length : Nat) : Int)) fun r1 => Option.bind (sl1In a1 0 (WR (r1 - 1))) fun r2 => some r2
theorem sl34Account_c {a0 : TNetwork} {a1 : Int} {r : Bool} (H : sl34Account a0 a1 = some r) : Fn Tryz.prog 36 [.agg (eTNetwork a0), aI a1] [.c (.d (.b r))] := by
  refine fn_in Tryz.func36 rfl (by kernel_rfl) Tryz.ntmps36 rfl rfl rfl ?_
  refine wk ?_
  obtain ⟨r1, hr1, H⟩ := ob H
  refine awr_n rfl (ca rfl rfl rfl (sMin_c hr1) trivial rfl rfl rfl rfl) ?_
  refine wk ?_
  obtain ⟨r2, hr2, H⟩ := ob H
  refine awr_n rfl (ca rfl rfl rfl (sl1In_c hr2) trivial rfl rfl rfl rfl) ?_
  refine wk ?_
  cases H
  exact fin_ret (.cons (.tmp rfl) .nil) rfl rfl rfl
def sChargedBytes (a0 : TNetwork) (a1 : Int) : Option Int :=
  Option.bind (sl34Account a0 a1) fun r1 => bif !r1 then (some (-1)) else (Option.bind (ix a0.Accounts a1) fun x2 => Option.bind (ix a0.Sessions a1) fun x3 => some (WR (x2.Spent + x3.Usage.Used)))
theorem sChargedBytes_c {a0 : TNetwork} {a1 : Int} {r : Int} (H : sChargedBytes a0 a1 = some r) : Fn Tryz.prog 37 [.agg (eTNetwork a0), aI a1] [.c (.d (.i .i64 r))] := by
  refine fn_in Tryz.func37 rfl (by kernel_rfl) Tryz.ntmps37 rfl rfl rfl ?_
  refine wkd ?_
  obtain ⟨r1, hr1, H⟩ := ob H
  refine awr_n rfl (ca rfl rfl rfl (sl34Account_c hr1) trivial rfl rfl rfl rfl) ?_
  refine wkd ?_
  refine awc_cond rfl (fun h => ?_) (fun h => ?_)
  · have H := bt h H
    refine wkd ?_
    cases H
    exact fin_ret (.cons (.tmp rfl) .nil) rfl rfl rfl
  · have H := bf h H
    refine wkd ?_
    obtain ⟨x2, hx2, H⟩ := ob H
    refine dr_n rfl (xdT (enc := eTAccount) hx2 (fun _ => rfl) rfl rfl rfl) ?_
    refine wkd ?_
    obtain ⟨x3, hx3, H⟩ := ob H
    refine dr_n rfl (xdT (enc := eTSession) hx3 (fun _ => rfl) rfl rfl rfl) ?_
    refine wkd ?_
    cases H
    exact fin_ret (.cons (.tmp rfl) .nil) rfl rfl rfl
def sBytesOfFirst_L1 (a0 : TSession) (a1 : Int) : (Int × Int) → Option (Step (Int × Int) (Int))
  | (v1, v2) => Option.bind (bif ltB v2 ((a0.Submitted.length : Nat) : Int) then (some (ltB v2 a1)) else (some false)) fun (v6 : Bool) => bif v6 then (Option.bind (ix a0.Submitted v2) fun x7 => some (.next (WR (v1 + ((x7.Data.length : Nat) : Int)), WR (v2 + 1)))) else (some (.done v1))
def sBytesOfFirst (a0 : TSession) (a1 : Int) : Option Int :=
  Option.bind (iter (sBytesOfFirst_L1 a0 a1) FU (0, 0)) fun (v5 : Int) => some v5
theorem sBytesOfFirst_c {a0 : TSession} {a1 : Int} {r : Int} (H : sBytesOfFirst a0 a1 = some r) : Fn Tryz.prog 38 [.agg (eTSession a0), aI a1] [.c (.d (.i .i64 r))] := by
  refine fn_in Tryz.func38 rfl (by kernel_rfl) Tryz.ntmps38 rfl rfl rfl ?_
  refine wk ?_
  obtain ⟨v5, Hj, H⟩ := ob H
  refine awc_jblk ⟨[(5, tI v5)], [], 0⟩ ?_ ?_
  · refine wk ?_
    refine awc_iter (fun (q : Int × Int) => ⟨[(1, tI a1), (2, .v (.c (.p 0 0))), (5, tI q.1), (6, tI q.2)], [(0, .var 78 [.d false (.i .i64 a0.Record.ID.Network), .d false (.i .i64 a0.Record.ID.Number), .d false (.i .i64 a0.Record.Key), .d false (.i .i64 a0.Record.Seq), .d false (.i .i64 a0.Plan.RateLimit), .d false (.i .i64 a0.Plan.BestClass), .d false (.i .i64 a0.Plan.GrantSize), .d false (.l (a0.Plan.RoamingNetworks.map eI)), .d false (.i .i64 a0.State), .d false (.i .i64 a0.Pending.Rand), .d false (.i .i64 a0.Pending.Autn), .d false (.i .i64 a0.Pending.MAC), .d false (.i .i64 a0.Pending.Res), .d false (.i .i64 a0.Pending.Key), .d false (.i .i64 a0.PendingSeq), .d false (.i .i64 a0.Generation), .d false (.i .i64 a0.RootKey), .d false (.i .i64 a0.Epoch), .d false (.i .i64 a0.Cell), .d false (.i .i64 a0.Quiet), .d false (.i .i64 a0.Page.Area), .d false (.i .i64 a0.Page.Attempt), .d false (.i .i64 a0.Page.Wait), .d false (.l (a0.Submitted.map eTPayload)), .d false (.i .i64 a0.Window.Next), .d false (.l (a0.Window.Unacked.map eTNumberedPacket)), .d false (.i .i64 a0.Retry), .d false (.i .i64 a0.Usage.SessionID), .d false (.i .i64 a0.Usage.Granted), .d false (.i .i64 a0.Usage.Used)])], 1⟩) Hj (weak_of ⟨rfl, rfl, rfl, rfl, rfl, rfl, rfl, rfl, trivial⟩ ⟨rfl, ⟨rfl, rfl⟩, trivial⟩) ?_
    rintro ⟨v1, v2⟩ o H
    try dsimp only
    refine wk ?_
    obtain ⟨v6, Hj, H⟩ := ob H
    refine awr_join ⟨[(1, tI a1), (2, .v (.c (.p 0 0))), (5, tI v1), (6, tI v2), (16, tB v6)], [(0, .var 78 [.d false (.i .i64 a0.Record.ID.Network), .d false (.i .i64 a0.Record.ID.Number), .d false (.i .i64 a0.Record.Key), .d false (.i .i64 a0.Record.Seq), .d false (.i .i64 a0.Plan.RateLimit), .d false (.i .i64 a0.Plan.BestClass), .d false (.i .i64 a0.Plan.GrantSize), .d false (.l (a0.Plan.RoamingNetworks.map eI)), .d false (.i .i64 a0.State), .d false (.i .i64 a0.Pending.Rand), .d false (.i .i64 a0.Pending.Autn), .d false (.i .i64 a0.Pending.MAC), .d false (.i .i64 a0.Pending.Res), .d false (.i .i64 a0.Pending.Key), .d false (.i .i64 a0.PendingSeq), .d false (.i .i64 a0.Generation), .d false (.i .i64 a0.RootKey), .d false (.i .i64 a0.Epoch), .d false (.i .i64 a0.Cell), .d false (.i .i64 a0.Quiet), .d false (.i .i64 a0.Page.Area), .d false (.i .i64 a0.Page.Attempt), .d false (.i .i64 a0.Page.Wait), .d false (.l (a0.Submitted.map eTPayload)), .d false (.i .i64 a0.Window.Next), .d false (.l (a0.Window.Unacked.map eTNumberedPacket)), .d false (.i .i64 a0.Retry), .d false (.i .i64 a0.Usage.SessionID), .d false (.i .i64 a0.Usage.Granted), .d false (.i .i64 a0.Usage.Used)])], 1⟩ ?_ ?_
    · have H := Hj
      refine wk ?_
      refine g2 rfl rfl rfl (fun h => ?_) (fun h => ?_)
      · have H := bt h H
        refine wk ?_
        cases H
        exact weak_of ⟨rfl, rfl, rfl, rfl, rfl, rfl, rfl, rfl, rfl, rfl, trivial⟩ ⟨rfl, ⟨rfl, rfl⟩, trivial⟩
      · have H := bf h H
        refine wk ?_
        cases H
        exact weak_of ⟨rfl, rfl, rfl, rfl, rfl, rfl, rfl, rfl, rfl, rfl, trivial⟩ ⟨rfl, ⟨rfl, rfl⟩, trivial⟩
    refine wk ?_
    refine awc_cond rfl (fun h => ?_) (fun h => ?_)
    · have H := bt h H
      refine wk ?_
      obtain ⟨x7, hx7, H⟩ := ob H
      refine awr_n rfl (xdT (enc := eTPayload) hx7 (fun _ => rfl) rfl rfl rfl) ?_
      refine wk ?_
      cases H
      refine iq_n ?_
      exact weak_of ⟨rfl, rfl, rfl, rfl, rfl, rfl, rfl, rfl, trivial⟩ ⟨rfl, ⟨rfl, rfl⟩, trivial⟩
    · have H := bf h H
      refine wk ?_
      cases H
      refine iq_e (fun hq => ?_)
      cases hq
      refine wk ?_
      exact weak_of ⟨rfl, rfl, trivial⟩ trivial
  refine wk ?_
  cases H
  exact fin_ret (.cons (.tmp rfl) .nil) rfl rfl rfl
def sAcknowledgedPackets (a0 : TSession) : Option Int :=
  some (WR ((WR (a0.Window.Next - 1)) - ((a0.Window.Unacked.length : Nat) : Int)))
theorem sAcknowledgedPackets_c {a0 : TSession} {r : Int} (H : sAcknowledgedPackets a0 = some r) : Fn Tryz.prog 39 [.agg (eTSession a0)] [.c (.d (.i .i64 r))] := by
  refine fn_in Tryz.func39 rfl (by kernel_rfl) Tryz.ntmps39 rfl rfl rfl ?_
  refine wk ?_
  cases H
  exact fin_ret (.cons (.tmp rfl) .nil) rfl rfl rfl
def sChargedExactlyOnce (a0 : TNetwork) (a1 : Int) : Option Bool :=
  Option.bind (sl34Account a0 a1) fun r1 => Option.bind (bif r1 then (Option.bind (sChargedBytes a0 a1) fun r3 => Option.bind (ix a0.Sessions a1) fun x4 => Option.bind (ix a0.Sessions a1) fun x5 => Option.bind (sAcknowledgedPackets x5) fun r6 => Option.bind (sBytesOfFirst x4 r6) fun r7 => some (eqB r3 r7)) else (some false)) fun (v2 : Bool) => some v2
theorem sChargedExactlyOnce_c {a0 : TNetwork} {a1 : Int} {r : Bool} (H : sChargedExactlyOnce a0 a1 = some r) : Fn Tryz.prog 11 [.agg (eTNetwork a0), aI a1] [.c (.d (.b r))] := by
  refine fn_in Tryz.func11 rfl (by kernel_rfl) Tryz.ntmps11 rfl rfl rfl ?_
  refine wkd ?_
  obtain ⟨r1, hr1, H⟩ := ob H
  refine dr_n rfl (ca rfl rfl rfl (sl34Account_c hr1) trivial rfl rfl rfl rfl) ?_
  refine wkd ?_
  obtain ⟨v2, Hj, H⟩ := ob H
  refine dr_join ⟨[(4, tB v2)], [], 0⟩ ?_ ?_
  · have H := Hj
    refine wkd ?_
    refine dg2 rfl rfl rfl (fun h => ?_) (fun h => ?_)
    · have H := bt h H
      refine wkd ?_
      obtain ⟨r3, hr3, H⟩ := ob H
      refine dr_ng rfl rfl rfl rfl (ca rfl rfl rfl (sChargedBytes_c hr3) trivial rfl rfl rfl rfl) ?_
      refine wkd ?_
      obtain ⟨x4, hx4, H⟩ := ob H
      refine dr_ng rfl rfl rfl rfl (xdT (enc := eTSession) hx4 (fun _ => rfl) rfl rfl rfl) ?_
      refine wkd ?_
      obtain ⟨x5, hx5, H⟩ := ob H
      refine dr_ng rfl rfl rfl rfl (xdT (enc := eTSession) hx5 (fun _ => rfl) rfl rfl rfl) ?_
      refine wkd ?_
      obtain ⟨r6, hr6, H⟩ := ob H
      refine dr_ng rfl rfl rfl rfl (ca rfl rfl rfl (sAcknowledgedPackets_c hr6) trivial rfl rfl rfl rfl) ?_
      refine wkd ?_
      obtain ⟨r7, hr7, H⟩ := ob H
      refine dr_ng rfl rfl rfl rfl (ca rfl rfl rfl (sBytesOfFirst_c hr7) trivial rfl rfl rfl rfl) ?_
      refine wkd ?_
      cases H
      exact weak_of ⟨rfl, rfl, trivial⟩ trivial
    · have H := bf h H
      refine wkd ?_
      cases H
      exact weak_of ⟨rfl, rfl, trivial⟩ trivial
  refine wkd ?_
  cases H
  exact fin_ret (.cons (.tmp rfl) .nil) rfl rfl rfl
def sIsValidQuota (a0 : TQuota) : Option Bool :=
  Option.bind (bif leB 0 a0.SessionID then (Option.bind (sl1In a0.Granted 0 100000) fun r2 => bif r2 then (Option.bind (sl1In a0.Used 0 a0.Granted) fun r3 => some r3) else (some false)) else (some false)) fun (v1 : Bool) => some v1
theorem sIsValidQuota_c {a0 : TQuota} {r : Bool} (H : sIsValidQuota a0 = some r) : Fn Tryz.prog 69 [.agg (eTQuota a0)] [.c (.d (.b r))] := by
  refine fn_in Tryz.func69 rfl (by kernel_rfl) Tryz.ntmps69 rfl rfl rfl ?_
  refine wk ?_
  obtain ⟨v1, Hj, H⟩ := ob H
  refine awr_join ⟨[(2, tB v1)], [], 0⟩ ?_ ?_
  · have H := Hj
    refine wk ?_
    refine g2 rfl rfl rfl (fun h => ?_) (fun h => ?_)
    · have H := bt h H
      refine wk ?_
      obtain ⟨r2, hr2, H⟩ := ob H
      refine awr_ng rfl rfl rfl rfl (ca rfl rfl rfl (sl1In_c hr2) trivial rfl rfl rfl rfl) ?_
      refine wk ?_
      refine g2 rfl rfl rfl (fun h => ?_) (fun h => ?_)
      · have H := bt h H
        refine wk ?_
        obtain ⟨r3, hr3, H⟩ := ob H
        refine awr_ng rfl rfl rfl rfl (ca rfl rfl rfl (sl1In_c hr3) trivial rfl rfl rfl rfl) ?_
        refine wk ?_
        cases H
        exact weak_of ⟨rfl, rfl, trivial⟩ trivial
      · have H := bf h H
        refine wk ?_
        cases H
        exact weak_of ⟨rfl, rfl, trivial⟩ trivial
    · have H := bf h H
      refine wk ?_
      cases H
      exact weak_of ⟨rfl, rfl, trivial⟩ trivial
  refine wk ?_
  cases H
  exact fin_ret (.cons (.tmp rfl) .nil) rfl rfl rfl
def sRemainingQuota (a0 : TQuota) : Option Int :=
  Option.bind (sIsValidQuota a0) fun r1 => bif !r1 then (some 0) else (some (WR (a0.Granted - a0.Used)))
theorem sRemainingQuota_c {a0 : TQuota} {r : Int} (H : sRemainingQuota a0 = some r) : Fn Tryz.prog 44 [.agg (eTQuota a0)] [.c (.d (.i .i64 r))] := by
  refine fn_in Tryz.func44 rfl (by kernel_rfl) Tryz.ntmps44 rfl rfl rfl ?_
  refine wk ?_
  obtain ⟨r1, hr1, H⟩ := ob H
  refine awr_n rfl (ca rfl rfl rfl (sIsValidQuota_c hr1) trivial rfl rfl rfl rfl) ?_
  refine wk ?_
  refine awc_cond rfl (fun h => ?_) (fun h => ?_)
  · have H := bt h H
    refine wk ?_
    cases H
    exact fin_ret (.cons (.tmp rfl) .nil) rfl rfl rfl
  · have H := bf h H
    refine wk ?_
    cases H
    exact fin_ret (.cons (.tmp rfl) .nil) rfl rfl rfl
def sCanAfford (a0 : TNetwork) (a1 : Int) : Option Bool :=
  Option.bind (sl34Account a0 a1) fun r1 => bif !r1 then (some false) else (Option.bind (ix a0.Sessions a1) fun x2 => Option.bind (sBytesOfFirst x2 ((x2.Submitted.length : Nat) : Int)) fun r3 => Option.bind (sChargedBytes a0 a1) fun r4 => Option.bind (ix a0.Accounts a1) fun x5 => Option.bind (sRemainingQuota x2.Usage) fun r6 => some (leB (WR (r3 - r4)) (WR (x5.Available + r6))))
theorem sCanAfford_c {a0 : TNetwork} {a1 : Int} {r : Bool} (H : sCanAfford a0 a1 = some r) : Fn Tryz.prog 13 [.agg (eTNetwork a0), aI a1] [.c (.d (.b r))] := by
  refine fn_in Tryz.func13 rfl (by kernel_rfl) Tryz.ntmps13 rfl rfl rfl ?_
  refine wkd ?_
  obtain ⟨r1, hr1, H⟩ := ob H
  refine awr_n rfl (ca rfl rfl rfl (sl34Account_c hr1) trivial rfl rfl rfl rfl) ?_
  refine wkd ?_
  refine awc_cond rfl (fun h => ?_) (fun h => ?_)
  · have H := bt h H
    refine wkd ?_
    cases H
    exact fin_ret (.cons (.tmp rfl) .nil) rfl rfl rfl
  · have H := bf h H
    refine wkd ?_
    obtain ⟨x2, hx2, H⟩ := ob H
    refine awr_n rfl (xdT (enc := eTSession) hx2 (fun _ => rfl) rfl rfl rfl) ?_
    refine wkd ?_
    obtain ⟨r3, hr3, H⟩ := ob H
    refine dr_n rfl (ca rfl rfl rfl (sBytesOfFirst_c hr3) trivial rfl rfl rfl rfl) ?_
    refine wkd ?_
    obtain ⟨r4, hr4, H⟩ := ob H
    refine dr_n rfl (ca rfl rfl rfl (sChargedBytes_c hr4) trivial rfl rfl rfl rfl) ?_
    refine wkd ?_
    obtain ⟨x5, hx5, H⟩ := ob H
    refine dr_n rfl (xdT (enc := eTAccount) hx5 (fun _ => rfl) rfl rfl rfl) ?_
    refine wkd ?_
    obtain ⟨r6, hr6, H⟩ := ob H
    refine dr_n rfl (ca rfl rfl rfl (sRemainingQuota_c hr6) trivial rfl rfl rfl rfl) ?_
    refine wkd ?_
    cases H
    exact fin_ret (.cons (.tmp rfl) .nil) rfl rfl rfl
end Go.AM
