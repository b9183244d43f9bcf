/-
  Own text: a part of the abstract machine for this seat (Ghs). No statement is proved here.
-/
import Derived.Test.YtghkejhhneijlaaGhi
set_option linter.unusedVariables false
namespace Go.AM
open Go.Proofs
attribute [local irreducible] AWN NS AWO AWR AWC DR Weak iterQ
set_option maxRecDepth 100000
set_option maxHeartbeats 4000000
def sBytesOfFirst_L1 (a0 : TSession) (a1 : Int) : (Int × Int) → Option (Step (Int × Int) (Int))
  | (v1, v2) => Option.bind (bif ltB v2 ((a0.Submitted.length : Nat) : Int) then (some (ltB v2 a1)) else (some false)) fun (v6 : Bool) => bif v6 then (Option.bind (ix a0.Submitted v2) fun x7 => some (.next (WR (v1 + ((x7.Data.length : Nat) : Int)), WR (v2 + 1)))) else (some (.done v1))
def sBytesOfFirst (a0 : TSession) (a1 : Int) : Option Int :=
  Option.bind (iter (sBytesOfFirst_L1 a0 a1) FU (0, 0)) fun (v5 : Int) => some v5
theorem sBytesOfFirst_c {a0 : TSession} {a1 : Int} {r : Int} (H : sBytesOfFirst a0 a1 = some r) : Fn Try.prog 10 [.agg (eTSession a0), aI a1] [.c (.d (.i .i64 r))] := by
  refine fn_in Try.func10 rfl (by kernel_rfl) Try.ntmps10 rfl rfl rfl ?_
  refine wk ?_
  obtain ⟨v5, Hj, H⟩ := ob H
  refine awc_jblk ⟨[(5, tI v5)], [], 0⟩ ?_ ?_
  · refine wk ?_
    refine awc_iter (fun (q : Int × Int) => ⟨[(1, tI a1), (2, .v (.c (.p 0 0))), (5, tI q.1), (6, tI q.2)], [(0, .var 55 [.d false (.i .i64 a0.Record.ID.Network), .d false (.i .i64 a0.Record.ID.Number), .d false (.i .i64 a0.Record.Key), .d false (.i .i64 a0.Record.Seq), .d false (.i .i64 a0.Plan.RateLimit), .d false (.i .i64 a0.Plan.BestClass), .d false (.i .i64 a0.Plan.GrantSize), .d false (.l (a0.Plan.RoamingNetworks.map eI)), .d false (.i .i64 a0.State), .d false (.i .i64 a0.Pending.Rand), .d false (.i .i64 a0.Pending.Autn), .d false (.i .i64 a0.Pending.MAC), .d false (.i .i64 a0.Pending.Res), .d false (.i .i64 a0.Pending.Key), .d false (.i .i64 a0.PendingSeq), .d false (.i .i64 a0.Generation), .d false (.i .i64 a0.RootKey), .d false (.i .i64 a0.Epoch), .d false (.i .i64 a0.Cell), .d false (.i .i64 a0.Quiet), .d false (.i .i64 a0.Page.Area), .d false (.i .i64 a0.Page.Attempt), .d false (.i .i64 a0.Page.Wait), .d false (.l (a0.Submitted.map eTPayload)), .d false (.i .i64 a0.Window.Next), .d false (.l (a0.Window.Unacked.map eTNumberedPacket)), .d false (.i .i64 a0.Retry), .d false (.i .i64 a0.Usage.SessionID), .d false (.i .i64 a0.Usage.Granted), .d false (.i .i64 a0.Usage.Used)])], 1⟩) Hj (weak_of ⟨rfl, rfl, rfl, rfl, rfl, rfl, rfl, rfl, trivial⟩ ⟨rfl, ⟨rfl, rfl⟩, trivial⟩) ?_
    rintro ⟨v1, v2⟩ o H
    try dsimp only
    refine wk ?_
    obtain ⟨v6, Hj, H⟩ := ob H
    refine awr_join ⟨[(1, tI a1), (2, .v (.c (.p 0 0))), (5, tI v1), (6, tI v2), (16, tB v6)], [(0, .var 55 [.d false (.i .i64 a0.Record.ID.Network), .d false (.i .i64 a0.Record.ID.Number), .d false (.i .i64 a0.Record.Key), .d false (.i .i64 a0.Record.Seq), .d false (.i .i64 a0.Plan.RateLimit), .d false (.i .i64 a0.Plan.BestClass), .d false (.i .i64 a0.Plan.GrantSize), .d false (.l (a0.Plan.RoamingNetworks.map eI)), .d false (.i .i64 a0.State), .d false (.i .i64 a0.Pending.Rand), .d false (.i .i64 a0.Pending.Autn), .d false (.i .i64 a0.Pending.MAC), .d false (.i .i64 a0.Pending.Res), .d false (.i .i64 a0.Pending.Key), .d false (.i .i64 a0.PendingSeq), .d false (.i .i64 a0.Generation), .d false (.i .i64 a0.RootKey), .d false (.i .i64 a0.Epoch), .d false (.i .i64 a0.Cell), .d false (.i .i64 a0.Quiet), .d false (.i .i64 a0.Page.Area), .d false (.i .i64 a0.Page.Attempt), .d false (.i .i64 a0.Page.Wait), .d false (.l (a0.Submitted.map eTPayload)), .d false (.i .i64 a0.Window.Next), .d false (.l (a0.Window.Unacked.map eTNumberedPacket)), .d false (.i .i64 a0.Retry), .d false (.i .i64 a0.Usage.SessionID), .d false (.i .i64 a0.Usage.Granted), .d false (.i .i64 a0.Usage.Used)])], 1⟩ ?_ ?_
    · have H := Hj
      refine wk ?_
      refine g2 rfl rfl rfl (fun h => ?_) (fun h => ?_)
      · have H := bt h H
        refine wk ?_
        cases H
        exact weak_of ⟨rfl, rfl, rfl, rfl, rfl, rfl, rfl, rfl, rfl, rfl, trivial⟩ ⟨rfl, ⟨rfl, rfl⟩, trivial⟩
      · have H := bf h H
        refine wk ?_
        cases H
        exact weak_of ⟨rfl, rfl, rfl, rfl, rfl, rfl, rfl, rfl, rfl, rfl, trivial⟩ ⟨rfl, ⟨rfl, rfl⟩, trivial⟩
    refine wk ?_
    refine awc_cond rfl (fun h => ?_) (fun h => ?_)
    · have H := bt h H
      refine wk ?_
      obtain ⟨x7, hx7, H⟩ := ob H
      refine awr_n rfl (xdT (enc := eTPayload) hx7 (fun _ => rfl) rfl rfl rfl) ?_
      refine wk ?_
      cases H
      refine iq_n ?_
      exact weak_of ⟨rfl, rfl, rfl, rfl, rfl, rfl, rfl, rfl, trivial⟩ ⟨rfl, ⟨rfl, rfl⟩, trivial⟩
    · have H := bf h H
      refine wk ?_
      cases H
      refine iq_e (fun hq => ?_)
      cases hq
      refine wk ?_
      exact weak_of ⟨rfl, rfl, trivial⟩ trivial
  refine wk ?_
  cases H
  exact fin_ret (.cons (.tmp rfl) .nil) rfl rfl rfl
def sIsQuiescent (a0 : TNetwork) : Option Bool :=
  some (eqB ((a0.Flights.length : Nat) : Int) 0)
theorem sIsQuiescent_c {a0 : TNetwork} {r : Bool} (H : sIsQuiescent a0 = some r) : Fn Try.prog 15 [.agg (eTNetwork a0)] [.c (.d (.b r))] := by
  refine fn_in Try.func15 rfl (by kernel_rfl) Try.ntmps15 rfl rfl rfl ?_
  refine wk ?_
  cases H
  exact fin_ret (.cons (.tmp rfl) .nil) rfl rfl rfl
def sl1In (a0 : Int) (a1 : Int) (a2 : Int) : Option Bool :=
  Option.bind (bif leB a1 a0 then (some (leB a0 a2)) else (some false)) fun (v1 : Bool) => some v1
theorem sl1In_c {a0 : Int} {a1 : Int} {a2 : Int} {r : Bool} (H : sl1In a0 a1 a2 = some r) : Fn Try.prog 68 [aI a0, aI a1, aI a2] [.c (.d (.b r))] := by
  refine fn_in Try.func68 rfl (by kernel_rfl) Try.ntmps68 rfl rfl rfl ?_
  refine wk ?_
  obtain ⟨v1, Hj, H⟩ := ob H
  refine awr_join ⟨[(6, tB v1)], [], 0⟩ ?_ ?_
  · have H := Hj
    refine wk ?_
    refine g2 rfl rfl rfl (fun h => ?_) (fun h => ?_)
    · have H := bt h H
      refine wk ?_
      cases H
      exact weak_of ⟨rfl, rfl, trivial⟩ trivial
    · have H := bf h H
      refine wk ?_
      cases H
      exact weak_of ⟨rfl, rfl, trivial⟩ trivial
  refine wk ?_
  cases H
  exact fin_ret (.cons (.tmp rfl) .nil) rfl rfl rfl
def sMin (a0 : Int) (a1 : Int) : Option Int :=
  bif ltB a1 a0 then (some a1) else (some a0)
theorem sMin_c {a0 : Int} {a1 : Int} {r : Int} (H : sMin a0 a1 = some r) : Fn Try.prog 97 [aI a0, aI a1] [.c (.d (.i .i64 r))] := by
  refine fn_in Try.func97 rfl (by kernel_rfl) Try.ntmps97 rfl rfl rfl ?_
  refine wk ?_
  refine awc_cond rfl (fun h => ?_) (fun h => ?_)
  · have H := bt h H
    refine wk ?_
    cases H
    exact fin_ret (.cons (.tmp rfl) .nil) rfl rfl rfl
  · have H := bf h H
    refine wk ?_
    cases H
    exact fin_ret (.cons (.tmp rfl) .nil) rfl rfl rfl
def sl34Has (a0 : TNetwork) (a1 : Int) : Option Bool :=
  Option.bind (sMin ((a0.Devices.length : Nat) : Int) ((a0.Sessions.length : Nat) : Int)) fun r1 => Option.bind (sl1In a1 0 (WR (r1 - 1))) fun r2 => some r2
theorem sl34Has_c {a0 : TNetwork} {a1 : Int} {r : Bool} (H : sl34Has a0 a1 = some r) : Fn Try.prog 64 [.agg (eTNetwork a0), aI a1] [.c (.d (.b r))] := by
  refine fn_in Try.func64 rfl (by kernel_rfl) Try.ntmps64 rfl rfl rfl ?_
  refine wk ?_
  obtain ⟨r1, hr1, H⟩ := ob H
  refine awr_n rfl (ca rfl rfl rfl (sMin_c hr1) trivial rfl rfl rfl rfl) ?_
  refine wk ?_
  obtain ⟨r2, hr2, H⟩ := ob H
  refine awr_n rfl (ca rfl rfl rfl (sl1In_c hr2) trivial rfl rfl rfl rfl) ?_
  refine wk ?_
  cases H
  exact fin_ret (.cons (.tmp rfl) .nil) rfl rfl rfl
def sAcknowledgedPackets (a0 : TSession) : Option Int :=
  some (WR ((WR (a0.Window.Next - 1)) - ((a0.Window.Unacked.length : Nat) : Int)))
theorem sAcknowledgedPackets_c {a0 : TSession} {r : Int} (H : sAcknowledgedPackets a0 = some r) : Fn Try.prog 65 [.agg (eTSession a0)] [.c (.d (.i .i64 r))] := by
  refine fn_in Try.func65 rfl (by kernel_rfl) Try.ntmps65 rfl rfl rfl ?_
  refine wk ?_
  cases H
  exact fin_ret (.cons (.tmp rfl) .nil) rfl rfl rfl
def sAcknowledgedWereDelivered (a0 : TNetwork) (a1 : Int) : Option Bool :=
  Option.bind (sl34Has a0 a1) fun r1 => Option.bind (bif r1 then (Option.bind (ix a0.Sessions a1) fun x3 => Option.bind (sAcknowledgedPackets x3) fun r4 => Option.bind (ix a0.Devices a1) fun x5 => some (leB r4 ((x5.Receiver.Delivered.length : Nat) : Int))) else (some false)) fun (v2 : Bool) => some v2
theorem sAcknowledgedWereDelivered_c {a0 : TNetwork} {a1 : Int} {r : Bool} (H : sAcknowledgedWereDelivered a0 a1 = some r) : Fn Try.prog 19 [.agg (eTNetwork a0), aI a1] [.c (.d (.b r))] := by
  refine fn_in Try.func19 rfl (by kernel_rfl) Try.ntmps19 rfl rfl rfl ?_
  refine wkd ?_
  obtain ⟨r1, hr1, H⟩ := ob H
  refine dr_n rfl (ca rfl rfl rfl (sl34Has_c hr1) trivial rfl rfl rfl rfl) ?_
  refine wkd ?_
  obtain ⟨v2, Hj, H⟩ := ob H
  refine dr_join ⟨[(4, tB v2)], [], 0⟩ ?_ ?_
  · have H := Hj
    refine wkd ?_
    refine dg2 rfl rfl rfl (fun h => ?_) (fun h => ?_)
    · have H := bt h H
      refine wkd ?_
      obtain ⟨x3, hx3, H⟩ := ob H
      refine dr_ng rfl rfl rfl rfl (xdT (enc := eTSession) hx3 (fun _ => rfl) rfl rfl rfl) ?_
      refine wkd ?_
      obtain ⟨r4, hr4, H⟩ := ob H
      refine dr_ng rfl rfl rfl rfl (ca rfl rfl rfl (sAcknowledgedPackets_c hr4) trivial rfl rfl rfl rfl) ?_
      refine wkd ?_
      obtain ⟨x5, hx5, H⟩ := ob H
      refine dr_ng rfl rfl rfl rfl (xdT (enc := eTDevice) hx5 (fun _ => rfl) rfl rfl rfl) ?_
      refine wkd ?_
      cases H
      exact weak_of ⟨rfl, rfl, trivial⟩ trivial
    · have H := bf h H
      refine wkd ?_
      cases H
      exact weak_of ⟨rfl, rfl, trivial⟩ trivial
  refine wkd ?_
  cases H
  exact fin_ret (.cons (.tmp rfl) .nil) rfl rfl rfl
def sIsCellUp (a0 : TNetwork) (a1 : Int) : Option Bool :=
  Option.bind (sMin ((a0.Map.Cells.length : Nat) : Int) 6) fun r1 => Option.bind (sl1In a1 0 (WR (r1 - 1))) fun r2 => Option.bind (bif r2 then (bif leB 0 a1 then (some (eqB (bAnd .i64 (bShr .i64 a0.DownCells a1) 1) 0)) else none) else (some false)) fun (v3 : Bool) => some v3
theorem sIsCellUp_c {a0 : TNetwork} {a1 : Int} {r : Bool} (H : sIsCellUp a0 a1 = some r) : Fn Try.prog 69 [.agg (eTNetwork a0), aI a1] [.c (.d (.b r))] := by
  refine fn_in Try.func69 rfl (by kernel_rfl) Try.ntmps69 rfl rfl rfl ?_
  refine wk ?_
  obtain ⟨r1, hr1, H⟩ := ob H
  refine awr_n rfl (ca rfl rfl rfl (sMin_c hr1) trivial rfl rfl rfl rfl) ?_
  refine wk ?_
  obtain ⟨r2, hr2, H⟩ := ob H
  refine awr_n rfl (ca rfl rfl rfl (sl1In_c hr2) trivial rfl rfl rfl rfl) ?_
  refine wk ?_
  obtain ⟨v3, Hj, H⟩ := ob H
  refine awr_join ⟨[(4, tB v3)], [], 0⟩ ?_ ?_
  · have H := Hj
    refine wk ?_
    refine g2 rfl rfl rfl (fun h => ?_) (fun h => ?_)
    · have H := bt h H
      refine wk ?_
      obtain ⟨h, H⟩ := rq H
      refine awr_ng rfl rfl rfl rfl (ishT h rfl rfl rfl rfl) ?_
      refine wk ?_
      cases H
      exact weak_of ⟨rfl, rfl, trivial⟩ trivial
    · have H := bf h H
      refine wk ?_
      cases H
      exact weak_of ⟨rfl, rfl, trivial⟩ trivial
  refine wk ?_
  cases H
  exact fin_ret (.cons (.tmp rfl) .nil) rfl rfl rfl
def sIsReachable (a0 : TNetwork) (a1 : Int) : Option Bool :=
  Option.bind (sl1In a1 0 (WR (((a0.Devices.length : Nat) : Int) - 1))) fun r1 => Option.bind (bif r1 then (Option.bind (ix a0.Devices a1) fun x3 => bif !eqB x3.State 0 then (Option.bind (ix a0.Devices a1) fun x4 => Option.bind (sIsCellUp a0 x4.Cell) fun r5 => some r5) else (some false)) else (some false)) fun (v2 : Bool) => some v2
theorem sIsReachable_c {a0 : TNetwork} {a1 : Int} {r : Bool} (H : sIsReachable a0 a1 = some r) : Fn Try.prog 21 [.agg (eTNetwork a0), aI a1] [.c (.d (.b r))] := by
  refine fn_in Try.func21 rfl (by kernel_rfl) Try.ntmps21 rfl rfl rfl ?_
  refine wkd ?_
  obtain ⟨r1, hr1, H⟩ := ob H
  refine dr_n rfl (ca rfl rfl rfl (sl1In_c hr1) trivial rfl rfl rfl rfl) ?_
  refine wkd ?_
  obtain ⟨v2, Hj, H⟩ := ob H
  refine dr_join ⟨[(4, tB v2)], [], 0⟩ ?_ ?_
  · have H := Hj
    refine wkd ?_
    refine dg2 rfl rfl rfl (fun h => ?_) (fun h => ?_)
    · have H := bt h H
      refine wkd ?_
      obtain ⟨x3, hx3, H⟩ := ob H
      refine dr_ng rfl rfl rfl rfl (xdT (enc := eTDevice) hx3 (fun _ => rfl) rfl rfl rfl) ?_
      refine wkd ?_
      refine dg2 rfl rfl rfl (fun h => ?_) (fun h => ?_)
      · have H := bt h H
        refine wkd ?_
        obtain ⟨x4, hx4, H⟩ := ob H
        refine dr_ng rfl rfl rfl rfl (xdT (enc := eTDevice) hx4 (fun _ => rfl) rfl rfl rfl) ?_
        refine wkd ?_
        obtain ⟨r5, hr5, H⟩ := ob H
        refine dr_ng rfl rfl rfl rfl (ca rfl rfl rfl (sIsCellUp_c hr5) trivial rfl rfl rfl rfl) ?_
        refine wkd ?_
        cases H
        exact weak_of ⟨rfl, rfl, trivial⟩ trivial
      · have H := bf h H
        refine wkd ?_
        cases H
        exact weak_of ⟨rfl, rfl, trivial⟩ trivial
    · have H := bf h H
      refine wkd ?_
      cases H
      exact weak_of ⟨rfl, rfl, trivial⟩ trivial
  refine wkd ?_
  cases H
  exact fin_ret (.cons (.tmp rfl) .nil) rfl rfl rfl
def sl34Account (a0 : TNetwork) (a1 : Int) : Option Bool :=
  Option.bind (sMin ((a0.Accounts.length : Nat) : Int) ((a0.Sessions.length : Nat) : Int)) fun r1 => Option.bind (sl1In a1 0 (WR (r1 - 1))) fun r2 => some r2
theorem sl34Account_c {a0 : TNetwork} {a1 : Int} {r : Bool} (H : sl34Account a0 a1 = some r) : Fn Try.prog 72 [.agg (eTNetwork a0), aI a1] [.c (.d (.b r))] := by
  refine fn_in Try.func72 rfl (by kernel_rfl) Try.ntmps72 rfl rfl rfl ?_
  refine wk ?_
  obtain ⟨r1, hr1, H⟩ := ob H
  refine awr_n rfl (ca rfl rfl rfl (sMin_c hr1) trivial rfl rfl rfl rfl) ?_
  refine wk ?_
  obtain ⟨r2, hr2, H⟩ := ob H
  refine awr_n rfl (ca rfl rfl rfl (sl1In_c hr2) trivial rfl rfl rfl rfl) ?_
  refine wk ?_
  cases H
  exact fin_ret (.cons (.tmp rfl) .nil) rfl rfl rfl
def sChargedBytes (a0 : TNetwork) (a1 : Int) : Option Int :=
  Option.bind (sl34Account a0 a1) fun r1 => bif !r1 then (some (-1)) else (Option.bind (ix a0.Accounts a1) fun x2 => Option.bind (ix a0.Sessions a1) fun x3 => some (WR (x2.Spent + x3.Usage.Used)))
theorem sChargedBytes_c {a0 : TNetwork} {a1 : Int} {r : Int} (H : sChargedBytes a0 a1 = some r) : Fn Try.prog 23 [.agg (eTNetwork a0), aI a1] [.c (.d (.i .i64 r))] := by
  refine fn_in Try.func23 rfl (by kernel_rfl) Try.ntmps23 rfl rfl rfl ?_
  refine wkd ?_
  obtain ⟨r1, hr1, H⟩ := ob H
  refine awr_n rfl (ca rfl rfl rfl (sl34Account_c hr1) trivial rfl rfl rfl rfl) ?_
  refine wkd ?_
  refine awc_cond rfl (fun h => ?_) (fun h => ?_)
  · have H := bt h H
    refine wkd ?_
    cases H
    exact fin_ret (.cons (.tmp rfl) .nil) rfl rfl rfl
  · have H := bf h H
    refine wkd ?_
    obtain ⟨x2, hx2, H⟩ := ob H
    refine dr_n rfl (xdT (enc := eTAccount) hx2 (fun _ => rfl) rfl rfl rfl) ?_
    refine wkd ?_
    obtain ⟨x3, hx3, H⟩ := ob H
    refine dr_n rfl (xdT (enc := eTSession) hx3 (fun _ => rfl) rfl rfl rfl) ?_
    refine wkd ?_
    cases H
    exact fin_ret (.cons (.tmp rfl) .nil) rfl rfl rfl
def sIsServed (a0 : TNetwork) (a1 : Int) : Option Bool :=
  Option.bind (sl34Has a0 a1) fun r1 => bif !r1 then (some false) else (Option.bind (ix a0.Sessions a1) fun x2 => Option.bind (ix a0.Devices a1) fun x3 => Option.bind (bif eqB ((x3.Receiver.Delivered.length : Nat) : Int) ((x2.Submitted.length : Nat) : Int) then (Option.bind (ix a0.Sessions a1) fun x5 => Option.bind (sAcknowledgedPackets x5) fun r6 => some (eqB r6 ((x2.Submitted.length : Nat) : Int))) else (some false)) fun (v4 : Bool) => some v4)
theorem sIsServed_c {a0 : TNetwork} {a1 : Int} {r : Bool} (H : sIsServed a0 a1 = some r) : Fn Try.prog 25 [.agg (eTNetwork a0), aI a1] [.c (.d (.b r))] := by
  refine fn_in Try.func25 rfl (by kernel_rfl) Try.ntmps25 rfl rfl rfl ?_
  refine wk ?_
  obtain ⟨r1, hr1, H⟩ := ob H
  refine awr_n rfl (ca rfl rfl rfl (sl34Has_c hr1) trivial rfl rfl rfl rfl) ?_
  refine wk ?_
  refine awc_cond rfl (fun h => ?_) (fun h => ?_)
  · have H := bt h H
    refine wk ?_
    cases H
    exact fin_ret (.cons (.tmp rfl) .nil) rfl rfl rfl
  · have H := bf h H
    refine wk ?_
    obtain ⟨x2, hx2, H⟩ := ob H
    refine awr_n rfl (xdT (enc := eTSession) hx2 (fun _ => rfl) rfl rfl rfl) ?_
    refine wk ?_
    obtain ⟨x3, hx3, H⟩ := ob H
    refine awr_n rfl (xdT (enc := eTDevice) hx3 (fun _ => rfl) rfl rfl rfl) ?_
    refine wk ?_
    obtain ⟨v4, Hj, H⟩ := ob H
    refine awr_join ⟨[(4, tB v4)], [], 0⟩ ?_ ?_
    · have H := Hj
      refine wk ?_
      refine g2 rfl rfl rfl (fun h => ?_) (fun h => ?_)
      · have H := bt h H
        refine wk ?_
        obtain ⟨x5, hx5, H⟩ := ob H
        refine awr_ng rfl rfl rfl rfl (xdT (enc := eTSession) hx5 (fun _ => rfl) rfl rfl rfl) ?_
        refine wk ?_
        obtain ⟨r6, hr6, H⟩ := ob H
        refine awr_ng rfl rfl rfl rfl (ca rfl rfl rfl (sAcknowledgedPackets_c hr6) trivial rfl rfl rfl rfl) ?_
        refine wk ?_
        cases H
        exact weak_of ⟨rfl, rfl, trivial⟩ trivial
      · have H := bf h H
        refine wk ?_
        cases H
        exact weak_of ⟨rfl, rfl, trivial⟩ trivial
    refine wk ?_
    cases H
    exact fin_ret (.cons (.tmp rfl) .nil) rfl rfl rfl
end Go.AM
