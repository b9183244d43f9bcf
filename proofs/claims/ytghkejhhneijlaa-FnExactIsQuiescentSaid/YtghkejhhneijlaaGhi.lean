/-
  Own text: a part of the abstract machine for this seat (Ghi). No statement is proved here.
-/
import Derived.Test.YtghkejhhneijlaaGhg
set_option linter.unusedVariables false
namespace Go.AM
open Go.Proofs
attribute [local irreducible] AWN NS AWO AWR AWC DR Weak iterQ
set_option maxRecDepth 100000
set_option maxHeartbeats 4000000
def ipayloadBytes_L1 (a0 : List TPayload) : (Int × Int) → Option (Step (Int × Int) (Int))
  | (v1, v2) => bif ltB v2 ((a0.length : Nat) : Int) then (Option.bind (ix a0 v2) fun x5 => some (.next (WR (v1 + ((x5.Data.length : Nat) : Int)), WR (v2 + 1)))) else (some (.done v1))
def ipayloadBytes (a0 : List TPayload) : Option Int :=
  Option.bind (iter (ipayloadBytes_L1 a0) FU (0, 0)) fun (v4 : Int) => some v4
theorem ipayloadBytes_c {a0 : List TPayload} {r : Int} (H : ipayloadBytes a0 = some r) : Fn Try.prog 37 [aL (a0.map eTPayload)] [.c (.d (.i .i64 r))] := by
  refine fn_in Try.func37 rfl (by kernel_rfl) Try.ntmps37 rfl rfl rfl ?_
  refine wk ?_
  obtain ⟨v4, Hj, H⟩ := ob H
  refine awc_jblk ⟨[(3, tI v4)], [], 0⟩ ?_ ?_
  · refine wk ?_
    refine awc_iter (fun (q : Int × Int) => ⟨[(3, tI q.1), (6, .v (.c (.d false (.l (a0.map eTPayload))))), (7, tI ((a0.length : Nat) : Int)), (8, tI q.2)], [], 0⟩) Hj (weak_of ⟨rfl, rfl, rfl, rfl, rfl, rfl, rfl, rfl, trivial⟩ trivial) ?_
    rintro ⟨v1, v2⟩ o H
    try dsimp only
    refine wk ?_
    refine awc_cond rfl (fun h => ?_) (fun h => ?_)
    · have H := bt h H
      refine wk ?_
      obtain ⟨x5, hx5, H⟩ := ob H
      refine awr_n rfl (xdT (enc := eTPayload) hx5 (fun _ => rfl) rfl rfl rfl) ?_
      refine wk ?_
      cases H
      refine iq_n ?_
      exact weak_of ⟨rfl, rfl, rfl, rfl, rfl, rfl, rfl, rfl, trivial⟩ trivial
    · have H := bf h H
      refine wk ?_
      cases H
      refine iq_e (fun hq => ?_)
      cases hq
      refine wk ?_
      exact weak_of ⟨rfl, rfl, trivial⟩ trivial
  refine wk ?_
  cases H
  exact fin_ret (.cons (.tmp rfl) .nil) rfl rfl rfl
def iMin (a0 : Int) (a1 : Int) : Option Int :=
  bif ltB a1 a0 then (some a1) else (some a0)
theorem iMin_c {a0 : Int} {a1 : Int} {r : Int} (H : iMin a0 a1 = some r) : Fn Try.prog 38 [aI a0, aI a1] [.c (.d (.i .i64 r))] := by
  refine fn_in Try.func38 rfl (by kernel_rfl) Try.ntmps38 rfl rfl rfl ?_
  refine wk ?_
  refine awc_cond rfl (fun h => ?_) (fun h => ?_)
  · have H := bt h H
    refine wk ?_
    cases H
    exact fin_ret (.cons (.tmp rfl) .nil) rfl rfl rfl
  · have H := bf h H
    refine wk ?_
    cases H
    exact fin_ret (.cons (.tmp rfl) .nil) rfl rfl rfl
def iMax (a0 : Int) (a1 : Int) : Option Int :=
  bif ltB a0 a1 then (some a1) else (some a0)
theorem iMax_c {a0 : Int} {a1 : Int} {r : Int} (H : iMax a0 a1 = some r) : Fn Try.prog 39 [aI a0, aI a1] [.c (.d (.i .i64 r))] := by
  refine fn_in Try.func39 rfl (by kernel_rfl) Try.ntmps39 rfl rfl rfl ?_
  refine wk ?_
  refine awc_cond rfl (fun h => ?_) (fun h => ?_)
  · have H := bt h H
    refine wk ?_
    cases H
    exact fin_ret (.cons (.tmp rfl) .nil) rfl rfl rfl
  · have H := bf h H
    refine wk ?_
    cases H
    exact fin_ret (.cons (.tmp rfl) .nil) rfl rfl rfl
def iBytesOfFirst (a0 : TSession) (a1 : Int) : Option Int :=
  Option.bind (iMax a1 0) fun r1 => Option.bind (iMin r1 ((a0.Submitted.length : Nat) : Int)) fun r2 => bif slOk a0.Submitted 0 r2 then (Option.bind (ipayloadBytes (a0.Submitted.take (r2).toNat)) fun r3 => some r3) else none
theorem iBytesOfFirst_c {a0 : TSession} {a1 : Int} {r : Int} (H : iBytesOfFirst a0 a1 = some r) : Fn Try.prog 12 [.agg (eTSession a0), aI a1] [.c (.d (.i .i64 r))] := by
  refine fn_in Try.func12 rfl (by kernel_rfl) Try.ntmps12 rfl rfl rfl ?_
  refine wkd ?_
  obtain ⟨r1, hr1, H⟩ := ob H
  refine dr_n rfl (ca rfl rfl rfl (iMax_c hr1) trivial rfl rfl rfl rfl) ?_
  refine wkd ?_
  obtain ⟨r2, hr2, H⟩ := ob H
  refine dr_n rfl (ca rfl rfl rfl (iMin_c hr2) trivial rfl rfl rfl rfl) ?_
  refine wkd ?_
  obtain ⟨h, H⟩ := rq H
  refine dr_n rfl (cdhT (enc := eTPayload) h (fun _ => rfl) rfl rfl rfl) ?_
  refine wkd ?_
  obtain ⟨r3, hr3, H⟩ := ob H
  refine dr_n rfl (ca rfl rfl rfl (ipayloadBytes_c hr3) trivial rfl rfl rfl rfl) ?_
  refine wkd ?_
  cases H
  exact fin_ret (.cons (.tmp rfl) .nil) rfl rfl rfl
def iIsQuiescent (a0 : TNetwork) : Option Bool :=
  some (eqB ((a0.Flights.length : Nat) : Int) 0)
theorem iIsQuiescent_c {a0 : TNetwork} {r : Bool} (H : iIsQuiescent a0 = some r) : Fn Try.prog 17 [.agg (eTNetwork a0)] [.c (.d (.b r))] := by
  refine fn_in Try.func17 rfl (by kernel_rfl) Try.ntmps17 rfl rfl rfl ?_
  refine wk ?_
  cases H
  exact fin_ret (.cons (.tmp rfl) .nil) rfl rfl rfl
def iInRange (a0 : Int) (a1 : Int) (a2 : Int) : Option Bool :=
  Option.bind (bif leB a1 a0 then (some (leB a0 a2)) else (some false)) fun (v1 : Bool) => some v1
theorem iInRange_c {a0 : Int} {a1 : Int} {a2 : Int} {r : Bool} (H : iInRange a0 a1 a2 = some r) : Fn Try.prog 70 [aI a0, aI a1, aI a2] [.c (.d (.b r))] := by
  refine fn_in Try.func70 rfl (by kernel_rfl) Try.ntmps70 rfl rfl rfl ?_
  refine wk ?_
  obtain ⟨v1, Hj, H⟩ := ob H
  refine awr_join ⟨[(6, tB v1)], [], 0⟩ ?_ ?_
  · have H := Hj
    refine wk ?_
    refine g2 rfl rfl rfl (fun h => ?_) (fun h => ?_)
    · have H := bt h H
      refine wk ?_
      cases H
      exact weak_of ⟨rfl, rfl, trivial⟩ trivial
    · have H := bf h H
      refine wk ?_
      cases H
      exact weak_of ⟨rfl, rfl, trivial⟩ trivial
  refine wk ?_
  cases H
  exact fin_ret (.cons (.tmp rfl) .nil) rfl rfl rfl
def ihasDevice (a0 : TNetwork) (a1 : Int) : Option Bool :=
  Option.bind (iInRange a1 0 (WR (((a0.Devices.length : Nat) : Int) - 1))) fun r1 => Option.bind (bif r1 then (Option.bind (iInRange a1 0 (WR (((a0.Sessions.length : Nat) : Int) - 1))) fun r3 => some r3) else (some false)) fun (v2 : Bool) => some v2
theorem ihasDevice_c {a0 : TNetwork} {a1 : Int} {r : Bool} (H : ihasDevice a0 a1 = some r) : Fn Try.prog 66 [.agg (eTNetwork a0), aI a1] [.c (.d (.b r))] := by
  refine fn_in Try.func66 rfl (by kernel_rfl) Try.ntmps66 rfl rfl rfl ?_
  refine wk ?_
  obtain ⟨r1, hr1, H⟩ := ob H
  refine awr_n rfl (ca rfl rfl rfl (iInRange_c hr1) trivial rfl rfl rfl rfl) ?_
  refine wk ?_
  obtain ⟨v2, Hj, H⟩ := ob H
  refine awr_join ⟨[(4, tB v2)], [], 0⟩ ?_ ?_
  · have H := Hj
    refine wk ?_
    refine g2 rfl rfl rfl (fun h => ?_) (fun h => ?_)
    · have H := bt h H
      refine wk ?_
      obtain ⟨r3, hr3, H⟩ := ob H
      refine awr_ng rfl rfl rfl rfl (ca rfl rfl rfl (iInRange_c hr3) trivial rfl rfl rfl rfl) ?_
      refine wk ?_
      cases H
      exact weak_of ⟨rfl, rfl, trivial⟩ trivial
    · have H := bf h H
      refine wk ?_
      cases H
      exact weak_of ⟨rfl, rfl, trivial⟩ trivial
  refine wk ?_
  cases H
  exact fin_ret (.cons (.tmp rfl) .nil) rfl rfl rfl
def iAcknowledgedPackets (a0 : TSession) : Option Int :=
  some (WR ((WR (a0.Window.Next - 1)) - ((a0.Window.Unacked.length : Nat) : Int)))
theorem iAcknowledgedPackets_c {a0 : TSession} {r : Int} (H : iAcknowledgedPackets a0 = some r) : Fn Try.prog 67 [.agg (eTSession a0)] [.c (.d (.i .i64 r))] := by
  refine fn_in Try.func67 rfl (by kernel_rfl) Try.ntmps67 rfl rfl rfl ?_
  refine wk ?_
  cases H
  exact fin_ret (.cons (.tmp rfl) .nil) rfl rfl rfl
def iAcknowledgedWereDelivered (a0 : TNetwork) (a1 : Int) : Option Bool :=
  Option.bind (ihasDevice a0 a1) fun r1 => Option.bind (bif r1 then (Option.bind (ix a0.Sessions a1) fun x3 => Option.bind (iAcknowledgedPackets x3) fun r4 => Option.bind (ix a0.Devices a1) fun x5 => some (leB r4 ((x5.Receiver.Delivered.length : Nat) : Int))) else (some false)) fun (v2 : Bool) => some v2
theorem iAcknowledgedWereDelivered_c {a0 : TNetwork} {a1 : Int} {r : Bool} (H : iAcknowledgedWereDelivered a0 a1 = some r) : Fn Try.prog 20 [.agg (eTNetwork a0), aI a1] [.c (.d (.b r))] := by
  refine fn_in Try.func20 rfl (by kernel_rfl) Try.ntmps20 rfl rfl rfl ?_
  refine wkd ?_
  obtain ⟨r1, hr1, H⟩ := ob H
  refine dr_n rfl (ca rfl rfl rfl (ihasDevice_c hr1) trivial rfl rfl rfl rfl) ?_
  refine wkd ?_
  obtain ⟨v2, Hj, H⟩ := ob H
  refine dr_join ⟨[(4, tB v2)], [], 0⟩ ?_ ?_
  · have H := Hj
    refine wkd ?_
    refine dg2 rfl rfl rfl (fun h => ?_) (fun h => ?_)
    · have H := bt h H
      refine wkd ?_
      obtain ⟨x3, hx3, H⟩ := ob H
      refine dr_ng rfl rfl rfl rfl (xdT (enc := eTSession) hx3 (fun _ => rfl) rfl rfl rfl) ?_
      refine wkd ?_
      obtain ⟨r4, hr4, H⟩ := ob H
      refine dr_ng rfl rfl rfl rfl (ca rfl rfl rfl (iAcknowledgedPackets_c hr4) trivial rfl rfl rfl rfl) ?_
      refine wkd ?_
      obtain ⟨x5, hx5, H⟩ := ob H
      refine dr_ng rfl rfl rfl rfl (xdT (enc := eTDevice) hx5 (fun _ => rfl) rfl rfl rfl) ?_
      refine wkd ?_
      cases H
      exact weak_of ⟨rfl, rfl, trivial⟩ trivial
    · have H := bf h H
      refine wkd ?_
      cases H
      exact weak_of ⟨rfl, rfl, trivial⟩ trivial
  refine wkd ?_
  cases H
  exact fin_ret (.cons (.tmp rfl) .nil) rfl rfl rfl
def iisCell (a0 : TCellMap) (a1 : Int) : Option Bool :=
  Option.bind (iInRange a1 0 (WR (((a0.Cells.length : Nat) : Int) - 1))) fun r1 => some r1
theorem iisCell_c {a0 : TCellMap} {a1 : Int} {r : Bool} (H : iisCell a0 a1 = some r) : Fn Try.prog 98 [.agg (eTCellMap a0), aI a1] [.c (.d (.b r))] := by
  refine fn_in Try.func98 rfl (by kernel_rfl) Try.ntmps98 rfl rfl rfl ?_
  refine wk ?_
  obtain ⟨r1, hr1, H⟩ := ob H
  refine awr_n rfl (ca rfl rfl rfl (iInRange_c hr1) trivial rfl rfl rfl rfl) ?_
  refine wk ?_
  cases H
  exact fin_ret (.cons (.tmp rfl) .nil) rfl rfl rfl
def iIsCellUp (a0 : TNetwork) (a1 : Int) : Option Bool :=
  Option.bind (iisCell a0.Map a1) fun r1 => Option.bind (bif r1 then (bif ltB a1 6 then (bif leB 0 a1 then (some (eqB (bAnd .i64 (bShr .i64 a0.DownCells a1) 1) 0)) else none) else (some false)) else (some false)) fun (v2 : Bool) => some v2
theorem iIsCellUp_c {a0 : TNetwork} {a1 : Int} {r : Bool} (H : iIsCellUp a0 a1 = some r) : Fn Try.prog 71 [.agg (eTNetwork a0), aI a1] [.c (.d (.b r))] := by
  refine fn_in Try.func71 rfl (by kernel_rfl) Try.ntmps71 rfl rfl rfl ?_
  refine wk ?_
  obtain ⟨r1, hr1, H⟩ := ob H
  refine awr_n rfl (ca rfl rfl rfl (iisCell_c hr1) trivial rfl rfl rfl rfl) ?_
  refine wk ?_
  obtain ⟨v2, Hj, H⟩ := ob H
  refine awr_join ⟨[(4, tB v2)], [], 0⟩ ?_ ?_
  · have H := Hj
    refine wk ?_
    refine g2 rfl rfl rfl (fun h => ?_) (fun h => ?_)
    · have H := bt h H
      refine wk ?_
      refine g2 rfl rfl rfl (fun h => ?_) (fun h => ?_)
      · have H := bt h H
        refine wk ?_
        obtain ⟨h, H⟩ := rq H
        refine awr_ng rfl rfl rfl rfl (ishT h rfl rfl rfl rfl) ?_
        refine wk ?_
        cases H
        exact weak_of ⟨rfl, rfl, trivial⟩ trivial
      · have H := bf h H
        refine wk ?_
        cases H
        exact weak_of ⟨rfl, rfl, trivial⟩ trivial
    · have H := bf h H
      refine wk ?_
      cases H
      exact weak_of ⟨rfl, rfl, trivial⟩ trivial
  refine wk ?_
  cases H
  exact fin_ret (.cons (.tmp rfl) .nil) rfl rfl rfl
def iIsReachable (a0 : TNetwork) (a1 : Int) : Option Bool :=
  Option.bind (iInRange a1 0 (WR (((a0.Devices.length : Nat) : Int) - 1))) fun r1 => Option.bind (bif r1 then (Option.bind (ix a0.Devices a1) fun x3 => bif !eqB x3.State 0 then (Option.bind (ix a0.Devices a1) fun x4 => Option.bind (iIsCellUp a0 x4.Cell) fun r5 => some r5) else (some false)) else (some false)) fun (v2 : Bool) => some v2
theorem iIsReachable_c {a0 : TNetwork} {a1 : Int} {r : Bool} (H : iIsReachable a0 a1 = some r) : Fn Try.prog 22 [.agg (eTNetwork a0), aI a1] [.c (.d (.b r))] := by
  refine fn_in Try.func22 rfl (by kernel_rfl) Try.ntmps22 rfl rfl rfl ?_
  refine wkd ?_
  obtain ⟨r1, hr1, H⟩ := ob H
  refine dr_n rfl (ca rfl rfl rfl (iInRange_c hr1) trivial rfl rfl rfl rfl) ?_
  refine wkd ?_
  obtain ⟨v2, Hj, H⟩ := ob H
  refine dr_join ⟨[(4, tB v2)], [], 0⟩ ?_ ?_
  · have H := Hj
    refine wkd ?_
    refine dg2 rfl rfl rfl (fun h => ?_) (fun h => ?_)
    · have H := bt h H
      refine wkd ?_
      obtain ⟨x3, hx3, H⟩ := ob H
      refine dr_ng rfl rfl rfl rfl (xdT (enc := eTDevice) hx3 (fun _ => rfl) rfl rfl rfl) ?_
      refine wkd ?_
      refine dg2 rfl rfl rfl (fun h => ?_) (fun h => ?_)
      · have H := bt h H
        refine wkd ?_
        obtain ⟨x4, hx4, H⟩ := ob H
        refine dr_ng rfl rfl rfl rfl (xdT (enc := eTDevice) hx4 (fun _ => rfl) rfl rfl rfl) ?_
        refine wkd ?_
        obtain ⟨r5, hr5, H⟩ := ob H
        refine dr_ng rfl rfl rfl rfl (ca rfl rfl rfl (iIsCellUp_c hr5) trivial rfl rfl rfl rfl) ?_
        refine wkd ?_
        cases H
        exact weak_of ⟨rfl, rfl, trivial⟩ trivial
      · have H := bf h H
        refine wkd ?_
        cases H
        exact weak_of ⟨rfl, rfl, trivial⟩ trivial
    · have H := bf h H
      refine wkd ?_
      cases H
      exact weak_of ⟨rfl, rfl, trivial⟩ trivial
  refine wkd ?_
  cases H
  exact fin_ret (.cons (.tmp rfl) .nil) rfl rfl rfl
def ihasAccount (a0 : TNetwork) (a1 : Int) : Option Bool :=
  Option.bind (iInRange a1 0 (WR (((a0.Accounts.length : Nat) : Int) - 1))) fun r1 => Option.bind (bif r1 then (Option.bind (iInRange a1 0 (WR (((a0.Sessions.length : Nat) : Int) - 1))) fun r3 => some r3) else (some false)) fun (v2 : Bool) => some v2
theorem ihasAccount_c {a0 : TNetwork} {a1 : Int} {r : Bool} (H : ihasAccount a0 a1 = some r) : Fn Try.prog 73 [.agg (eTNetwork a0), aI a1] [.c (.d (.b r))] := by
  refine fn_in Try.func73 rfl (by kernel_rfl) Try.ntmps73 rfl rfl rfl ?_
  refine wk ?_
  obtain ⟨r1, hr1, H⟩ := ob H
  refine awr_n rfl (ca rfl rfl rfl (iInRange_c hr1) trivial rfl rfl rfl rfl) ?_
  refine wk ?_
  obtain ⟨v2, Hj, H⟩ := ob H
  refine awr_join ⟨[(4, tB v2)], [], 0⟩ ?_ ?_
  · have H := Hj
    refine wk ?_
    refine g2 rfl rfl rfl (fun h => ?_) (fun h => ?_)
    · have H := bt h H
      refine wk ?_
      obtain ⟨r3, hr3, H⟩ := ob H
      refine awr_ng rfl rfl rfl rfl (ca rfl rfl rfl (iInRange_c hr3) trivial rfl rfl rfl rfl) ?_
      refine wk ?_
      cases H
      exact weak_of ⟨rfl, rfl, trivial⟩ trivial
    · have H := bf h H
      refine wk ?_
      cases H
      exact weak_of ⟨rfl, rfl, trivial⟩ trivial
  refine wk ?_
  cases H
  exact fin_ret (.cons (.tmp rfl) .nil) rfl rfl rfl
def iChargedBytes (a0 : TNetwork) (a1 : Int) : Option Int :=
  Option.bind (ihasAccount a0 a1) fun r1 => bif !r1 then (some (-1)) else (Option.bind (ix a0.Accounts a1) fun x2 => Option.bind (ix a0.Sessions a1) fun x3 => some (WR (x2.Spent + x3.Usage.Used)))
theorem iChargedBytes_c {a0 : TNetwork} {a1 : Int} {r : Int} (H : iChargedBytes a0 a1 = some r) : Fn Try.prog 24 [.agg (eTNetwork a0), aI a1] [.c (.d (.i .i64 r))] := by
  refine fn_in Try.func24 rfl (by kernel_rfl) Try.ntmps24 rfl rfl rfl ?_
  refine wkd ?_
  obtain ⟨r1, hr1, H⟩ := ob H
  refine awr_n rfl (ca rfl rfl rfl (ihasAccount_c hr1) trivial rfl rfl rfl rfl) ?_
  refine wkd ?_
  refine awc_cond rfl (fun h => ?_) (fun h => ?_)
  · have H := bt h H
    refine wkd ?_
    cases H
    exact fin_ret (.cons (.tmp rfl) .nil) rfl rfl rfl
  · have H := bf h H
    refine wkd ?_
    obtain ⟨x2, hx2, H⟩ := ob H
    refine dr_n rfl (xdT (enc := eTAccount) hx2 (fun _ => rfl) rfl rfl rfl) ?_
    refine wkd ?_
    obtain ⟨x3, hx3, H⟩ := ob H
    refine dr_n rfl (xdT (enc := eTSession) hx3 (fun _ => rfl) rfl rfl rfl) ?_
    refine wkd ?_
    cases H
    exact fin_ret (.cons (.tmp rfl) .nil) rfl rfl rfl
def iIsServed (a0 : TNetwork) (a1 : Int) : Option Bool :=
  Option.bind (ihasDevice a0 a1) fun r1 => bif !r1 then (some false) else (Option.bind (ix a0.Sessions a1) fun x2 => Option.bind (ix a0.Devices a1) fun x3 => Option.bind (bif eqB ((x3.Receiver.Delivered.length : Nat) : Int) ((x2.Submitted.length : Nat) : Int) then (Option.bind (iAcknowledgedPackets x2) fun r5 => some (eqB r5 ((x2.Submitted.length : Nat) : Int))) else (some false)) fun (v4 : Bool) => some v4)
theorem iIsServed_c {a0 : TNetwork} {a1 : Int} {r : Bool} (H : iIsServed a0 a1 = some r) : Fn Try.prog 26 [.agg (eTNetwork a0), aI a1] [.c (.d (.b r))] := by
  refine fn_in Try.func26 rfl (by kernel_rfl) Try.ntmps26 rfl rfl rfl ?_
  refine wkd ?_
  obtain ⟨r1, hr1, H⟩ := ob H
  refine awr_n rfl (ca rfl rfl rfl (ihasDevice_c hr1) trivial rfl rfl rfl rfl) ?_
  refine wkd ?_
  refine awc_cond rfl (fun h => ?_) (fun h => ?_)
  · have H := bt h H
    refine wkd ?_
    cases H
    exact fin_ret (.cons (.tmp rfl) .nil) rfl rfl rfl
  · have H := bf h H
    refine wkd ?_
    obtain ⟨x2, hx2, H⟩ := ob H
    refine awr_n rfl (xdT (enc := eTSession) hx2 (fun _ => rfl) rfl rfl rfl) ?_
    refine wkd ?_
    obtain ⟨x3, hx3, H⟩ := ob H
    refine dr_n rfl (xdT (enc := eTDevice) hx3 (fun _ => rfl) rfl rfl rfl) ?_
    refine wkd ?_
    obtain ⟨v4, Hj, H⟩ := ob H
    refine dr_join ⟨[(4, tB v4)], [], 0⟩ ?_ ?_
    · have H := Hj
      refine wkd ?_
      refine dg2 rfl rfl rfl (fun h => ?_) (fun h => ?_)
      · have H := bt h H
        refine wkd ?_
        obtain ⟨r5, hr5, H⟩ := ob H
        refine dr_ng rfl rfl rfl rfl (ca rfl rfl rfl (iAcknowledgedPackets_c hr5) trivial rfl rfl rfl rfl) ?_
        refine wkd ?_
        cases H
        exact weak_of ⟨rfl, rfl, trivial⟩ trivial
      · have H := bf h H
        refine wkd ?_
        cases H
        exact weak_of ⟨rfl, rfl, trivial⟩ trivial
    refine wkd ?_
    cases H
    exact fin_ret (.cons (.tmp rfl) .nil) rfl rfl rfl
end Go.AM
