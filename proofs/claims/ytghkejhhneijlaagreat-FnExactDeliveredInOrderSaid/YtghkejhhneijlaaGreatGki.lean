/-
  Own text: a part of the abstract machine for this seat (Gki). No statement is proved here.
-/
import Derived.Test.YtghkejhhneijlaaGreatGkg
set_option linter.unusedVariables false
namespace Go.AM
open Go.Proofs
attribute [local irreducible] AWN NS AWO AWR AWC DR Weak iterQ
set_option maxRecDepth 100000
set_option maxHeartbeats 4000000
def iInRange (a0 : Int) (a1 : Int) (a2 : Int) : Option Bool :=
  Option.bind (bif leB a1 a0 then (some (leB a0 a2)) else (some false)) fun (v1 : Bool) => some v1
theorem iInRange_c {a0 : Int} {a1 : Int} {a2 : Int} {r : Bool} (H : iInRange a0 a1 a2 = some r) : Fn Tryz.prog 60 [aI a0, aI a1, aI a2] [.c (.d (.b r))] := by
  refine fn_in Tryz.func60 rfl (by kernel_rfl) Tryz.ntmps60 rfl rfl rfl ?_
  refine wk ?_
  obtain ⟨v1, Hj, H⟩ := ob H
  refine awr_join ⟨[(6, tB v1)], [], 0⟩ ?_ ?_
  · have H := Hj
    refine wk ?_
    refine g2 rfl rfl rfl (fun h => ?_) (fun h => ?_)
    · have H := bt h H
      refine wk ?_
      cases H
      exact weak_of ⟨rfl, rfl, trivial⟩ trivial
    · have H := bf h H
      refine wk ?_
      cases H
      exact weak_of ⟨rfl, rfl, trivial⟩ trivial
  refine wk ?_
  cases H
  exact fin_ret (.cons (.tmp rfl) .nil) rfl rfl rfl
def ihasDevice (a0 : TNetwork) (a1 : Int) : Option Bool :=
  Option.bind (iInRange a1 0 (WR (((a0.Devices.length : Nat) : Int) - 1))) fun r1 => Option.bind (bif r1 then (Option.bind (iInRange a1 0 (WR (((a0.Sessions.length : Nat) : Int) - 1))) fun r3 => some r3) else (some false)) fun (v2 : Bool) => some v2
theorem ihasDevice_c {a0 : TNetwork} {a1 : Int} {r : Bool} (H : ihasDevice a0 a1 = some r) : Fn Tryz.prog 28 [.agg (eTNetwork a0), aI a1] [.c (.d (.b r))] := by
  refine fn_in Tryz.func28 rfl (by kernel_rfl) Tryz.ntmps28 rfl rfl rfl ?_
  refine wk ?_
  obtain ⟨r1, hr1, H⟩ := ob H
  refine awr_n rfl (ca rfl rfl rfl (iInRange_c hr1) trivial rfl rfl rfl rfl) ?_
  refine wk ?_
  obtain ⟨v2, Hj, H⟩ := ob H
  refine awr_join ⟨[(4, tB v2)], [], 0⟩ ?_ ?_
  · have H := Hj
    refine wk ?_
    refine g2 rfl rfl rfl (fun h => ?_) (fun h => ?_)
    · have H := bt h H
      refine wk ?_
      obtain ⟨r3, hr3, H⟩ := ob H
      refine awr_ng rfl rfl rfl rfl (ca rfl rfl rfl (iInRange_c hr3) trivial rfl rfl rfl rfl) ?_
      refine wk ?_
      cases H
      exact weak_of ⟨rfl, rfl, trivial⟩ trivial
    · have H := bf h H
      refine wk ?_
      cases H
      exact weak_of ⟨rfl, rfl, trivial⟩ trivial
  refine wk ?_
  cases H
  exact fin_ret (.cons (.tmp rfl) .nil) rfl rfl rfl
def iEqualBytes (a0 : List Int) (a1 : List Int) : Option Bool :=
  Option.bind (gbytes_Equal a0 a1) fun r1 => some r1
theorem iEqualBytes_c {a0 : List Int} {a1 : List Int} {r : Bool} (H : iEqualBytes a0 a1 = some r) : Fn Tryz.prog 61 [aL (a0.map eU8), aL (a1.map eU8)] [.c (.d (.b r))] := by
  refine fn_in Tryz.func61 rfl (by kernel_rfl) Tryz.ntmps61 rfl rfl rfl ?_
  refine wk ?_
  obtain ⟨r1, hr1, H⟩ := ob H
  refine awr_n rfl (ca rfl rfl rfl (gbytes_Equal_c hr1) trivial rfl rfl rfl rfl) ?_
  refine wk ?_
  cases H
  exact fin_ret (.cons (.tmp rfl) .nil) rfl rfl rfl
def iIsPrefixOf_L1 (a0 : List TPayload) (a1 : List TPayload) : Int → Option (Step (Int) (Bool))
  | v1 => bif ltB v1 ((a0.length : Nat) : Int) then (Option.bind (ix a0 v1) fun x2 => Option.bind (ix a1 v1) fun x3 => Option.bind (iEqualBytes x2.Data x3.Data) fun r4 => bif !r4 then (dn (some false)) else (some (.next (WR (v1 + 1))))) else (dn (some true))
def iIsPrefixOf (a0 : List TPayload) (a1 : List TPayload) : Option Bool :=
  bif ltB ((a1.length : Nat) : Int) ((a0.length : Nat) : Int) then (some false) else (iter (iIsPrefixOf_L1 a0 a1) FU 0)
theorem iIsPrefixOf_c {a0 : List TPayload} {a1 : List TPayload} {r : Bool} (H : iIsPrefixOf a0 a1 = some r) : Fn Tryz.prog 29 [aL (a0.map eTPayload), aL (a1.map eTPayload)] [.c (.d (.b r))] := by
  refine fn_in Tryz.func29 rfl (by kernel_rfl) Tryz.ntmps29 rfl rfl rfl ?_
  refine wkd ?_
  refine awc_cond rfl (fun h => ?_) (fun h => ?_)
  · have H := bt h H
    refine wkd ?_
    cases H
    exact fin_ret (.cons (.tmp rfl) .nil) rfl rfl rfl
  · have H := bf h H
    refine wkd ?_
    refine awc_iter (fun (q : Int) => ⟨[(0, .v (.c (.d false (.l (a0.map eTPayload))))), (1, .v (.c (.d false (.l (a1.map eTPayload))))), (12, tI ((a0.length : Nat) : Int)), (13, tI q)], [], 0⟩) H (weak_of ⟨rfl, rfl, rfl, rfl, rfl, rfl, rfl, rfl, trivial⟩ trivial) ?_
    rintro v1 o H
    try dsimp only
    refine wkd ?_
    refine awc_cond rfl (fun h => ?_) (fun h => ?_)
    · have H := bt h H
      refine wkd ?_
      obtain ⟨x2, hx2, H⟩ := ob H
      refine dr_n rfl (xdT (enc := eTPayload) hx2 (fun _ => rfl) rfl rfl rfl) ?_
      refine wkd ?_
      obtain ⟨x3, hx3, H⟩ := ob H
      refine dr_n rfl (xdT (enc := eTPayload) hx3 (fun _ => rfl) rfl rfl rfl) ?_
      refine wkd ?_
      obtain ⟨r4, hr4, H⟩ := ob H
      refine dr_n rfl (ca rfl rfl rfl (iEqualBytes_c hr4) trivial rfl rfl rfl rfl) ?_
      refine wkd ?_
      refine awc_cond rfl (fun h => ?_) (fun h => ?_)
      · have H := bt h H
        refine wkd ?_
        obtain ⟨r0, Hd, rfl⟩ := dnE H
        refine iq_r (fun hq => ?_)
        have H := Hd.trans (congrArg some hq)
        refine wkd ?_
        cases H
        exact fin_ret (.cons (.tmp rfl) .nil) rfl rfl rfl
      · have H := bf h H
        refine wkd ?_
        cases H
        refine iq_n ?_
        exact weak_of ⟨rfl, rfl, rfl, rfl, rfl, rfl, rfl, rfl, trivial⟩ trivial
    · have H := bf h H
      refine wkd ?_
      obtain ⟨r0, Hd, rfl⟩ := dnE H
      refine iq_e (fun hq => ?_)
      have H := Hd.trans (congrArg some hq)
      refine wkd ?_
      cases H
      exact fin_ret (.cons (.tmp rfl) .nil) rfl rfl rfl
def iDeliveredInOrder (a0 : TNetwork) (a1 : Int) : Option Bool :=
  Option.bind (ihasDevice a0 a1) fun r1 => Option.bind (bif r1 then (Option.bind (ix a0.Devices a1) fun x3 => Option.bind (ix a0.Sessions a1) fun x4 => Option.bind (iIsPrefixOf x3.Receiver.Delivered x4.Submitted) fun r5 => some r5) else (some false)) fun (v2 : Bool) => some v2
theorem iDeliveredInOrder_c {a0 : TNetwork} {a1 : Int} {r : Bool} (H : iDeliveredInOrder a0 a1 = some r) : Fn Tryz.prog 9 [.agg (eTNetwork a0), aI a1] [.c (.d (.b r))] := by
  refine fn_in Tryz.func9 rfl (by kernel_rfl) Tryz.ntmps9 rfl rfl rfl ?_
  refine wkd ?_
  obtain ⟨r1, hr1, H⟩ := ob H
  refine dr_n rfl (ca rfl rfl rfl (ihasDevice_c hr1) trivial rfl rfl rfl rfl) ?_
  refine wkd ?_
  obtain ⟨v2, Hj, H⟩ := ob H
  refine dr_join ⟨[(4, tB v2)], [], 0⟩ ?_ ?_
  · have H := Hj
    refine wkd ?_
    refine dg2 rfl rfl rfl (fun h => ?_) (fun h => ?_)
    · have H := bt h H
      refine wkd ?_
      obtain ⟨x3, hx3, H⟩ := ob H
      refine dr_ng rfl rfl rfl rfl (xdT (enc := eTDevice) hx3 (fun _ => rfl) rfl rfl rfl) ?_
      refine wkd ?_
      obtain ⟨x4, hx4, H⟩ := ob H
      refine dr_ng rfl rfl rfl rfl (xdT (enc := eTSession) hx4 (fun _ => rfl) rfl rfl rfl) ?_
      refine wkd ?_
      obtain ⟨r5, hr5, H⟩ := ob H
      refine dr_ng rfl rfl rfl rfl (ca rfl rfl rfl (iIsPrefixOf_c hr5) trivial rfl rfl rfl rfl) ?_
      refine wkd ?_
      cases H
      exact weak_of ⟨rfl, rfl, trivial⟩ trivial
    · have H := bf h H
      refine wkd ?_
      cases H
      exact weak_of ⟨rfl, rfl, trivial⟩ trivial
  refine wkd ?_
  cases H
  exact fin_ret (.cons (.tmp rfl) .nil) rfl rfl rfl
def ihasAccount (a0 : TNetwork) (a1 : Int) : Option Bool :=
  Option.bind (iInRange a1 0 (WR (((a0.Accounts.length : Nat) : Int) - 1))) fun r1 => Option.bind (bif r1 then (Option.bind (iInRange a1 0 (WR (((a0.Sessions.length : Nat) : Int) - 1))) fun r3 => some r3) else (some false)) fun (v2 : Bool) => some v2
theorem ihasAccount_c {a0 : TNetwork} {a1 : Int} {r : Bool} (H : ihasAccount a0 a1 = some r) : Fn Tryz.prog 40 [.agg (eTNetwork a0), aI a1] [.c (.d (.b r))] := by
  refine fn_in Tryz.func40 rfl (by kernel_rfl) Tryz.ntmps40 rfl rfl rfl ?_
  refine wk ?_
  obtain ⟨r1, hr1, H⟩ := ob H
  refine awr_n rfl (ca rfl rfl rfl (iInRange_c hr1) trivial rfl rfl rfl rfl) ?_
  refine wk ?_
  obtain ⟨v2, Hj, H⟩ := ob H
  refine awr_join ⟨[(4, tB v2)], [], 0⟩ ?_ ?_
  · have H := Hj
    refine wk ?_
    refine g2 rfl rfl rfl (fun h => ?_) (fun h => ?_)
    · have H := bt h H
      refine wk ?_
      obtain ⟨r3, hr3, H⟩ := ob H
      refine awr_ng rfl rfl rfl rfl (ca rfl rfl rfl (iInRange_c hr3) trivial rfl rfl rfl rfl) ?_
      refine wk ?_
      cases H
      exact weak_of ⟨rfl, rfl, trivial⟩ trivial
    · have H := bf h H
      refine wk ?_
      cases H
      exact weak_of ⟨rfl, rfl, trivial⟩ trivial
  refine wk ?_
  cases H
  exact fin_ret (.cons (.tmp rfl) .nil) rfl rfl rfl
def iChargedBytes (a0 : TNetwork) (a1 : Int) : Option Int :=
  Option.bind (ihasAccount a0 a1) fun r1 => bif !r1 then (some (-1)) else (Option.bind (ix a0.Accounts a1) fun x2 => Option.bind (ix a0.Sessions a1) fun x3 => some (WR (x2.Spent + x3.Usage.Used)))
theorem iChargedBytes_c {a0 : TNetwork} {a1 : Int} {r : Int} (H : iChargedBytes a0 a1 = some r) : Fn Tryz.prog 41 [.agg (eTNetwork a0), aI a1] [.c (.d (.i .i64 r))] := by
  refine fn_in Tryz.func41 rfl (by kernel_rfl) Tryz.ntmps41 rfl rfl rfl ?_
  refine wkd ?_
  obtain ⟨r1, hr1, H⟩ := ob H
  refine awr_n rfl (ca rfl rfl rfl (ihasAccount_c hr1) trivial rfl rfl rfl rfl) ?_
  refine wkd ?_
  refine awc_cond rfl (fun h => ?_) (fun h => ?_)
  · have H := bt h H
    refine wkd ?_
    cases H
    exact fin_ret (.cons (.tmp rfl) .nil) rfl rfl rfl
  · have H := bf h H
    refine wkd ?_
    obtain ⟨x2, hx2, H⟩ := ob H
    refine dr_n rfl (xdT (enc := eTAccount) hx2 (fun _ => rfl) rfl rfl rfl) ?_
    refine wkd ?_
    obtain ⟨x3, hx3, H⟩ := ob H
    refine dr_n rfl (xdT (enc := eTSession) hx3 (fun _ => rfl) rfl rfl rfl) ?_
    refine wkd ?_
    cases H
    exact fin_ret (.cons (.tmp rfl) .nil) rfl rfl rfl
def ipayloadBytes_L1 (a0 : List TPayload) : (Int × Int) → Option (Step (Int × Int) (Int))
  | (v1, v2) => bif ltB v2 ((a0.length : Nat) : Int) then (Option.bind (ix a0 v2) fun x5 => some (.next (WR (v1 + ((x5.Data.length : Nat) : Int)), WR (v2 + 1)))) else (some (.done v1))
def ipayloadBytes (a0 : List TPayload) : Option Int :=
  Option.bind (iter (ipayloadBytes_L1 a0) FU (0, 0)) fun (v4 : Int) => some v4
theorem ipayloadBytes_c {a0 : List TPayload} {r : Int} (H : ipayloadBytes a0 = some r) : Fn Tryz.prog 45 [aL (a0.map eTPayload)] [.c (.d (.i .i64 r))] := by
  refine fn_in Tryz.func45 rfl (by kernel_rfl) Tryz.ntmps45 rfl rfl rfl ?_
  refine wk ?_
  obtain ⟨v4, Hj, H⟩ := ob H
  refine awc_jblk ⟨[(3, tI v4)], [], 0⟩ ?_ ?_
  · refine wk ?_
    refine awc_iter (fun (q : Int × Int) => ⟨[(3, tI q.1), (6, .v (.c (.d false (.l (a0.map eTPayload))))), (7, tI ((a0.length : Nat) : Int)), (8, tI q.2)], [], 0⟩) Hj (weak_of ⟨rfl, rfl, rfl, rfl, rfl, rfl, rfl, rfl, trivial⟩ trivial) ?_
    rintro ⟨v1, v2⟩ o H
    try dsimp only
    refine wk ?_
    refine awc_cond rfl (fun h => ?_) (fun h => ?_)
    · have H := bt h H
      refine wk ?_
      obtain ⟨x5, hx5, H⟩ := ob H
      refine awr_n rfl (xdT (enc := eTPayload) hx5 (fun _ => rfl) rfl rfl rfl) ?_
      refine wk ?_
      cases H
      refine iq_n ?_
      exact weak_of ⟨rfl, rfl, rfl, rfl, rfl, rfl, rfl, rfl, trivial⟩ trivial
    · have H := bf h H
      refine wk ?_
      cases H
      refine iq_e (fun hq => ?_)
      cases hq
      refine wk ?_
      exact weak_of ⟨rfl, rfl, trivial⟩ trivial
  refine wk ?_
  cases H
  exact fin_ret (.cons (.tmp rfl) .nil) rfl rfl rfl
def iMin (a0 : Int) (a1 : Int) : Option Int :=
  bif ltB a1 a0 then (some a1) else (some a0)
theorem iMin_c {a0 : Int} {a1 : Int} {r : Int} (H : iMin a0 a1 = some r) : Fn Tryz.prog 67 [aI a0, aI a1] [.c (.d (.i .i64 r))] := by
  refine fn_in Tryz.func67 rfl (by kernel_rfl) Tryz.ntmps67 rfl rfl rfl ?_
  refine wk ?_
  refine awc_cond rfl (fun h => ?_) (fun h => ?_)
  · have H := bt h H
    refine wk ?_
    cases H
    exact fin_ret (.cons (.tmp rfl) .nil) rfl rfl rfl
  · have H := bf h H
    refine wk ?_
    cases H
    exact fin_ret (.cons (.tmp rfl) .nil) rfl rfl rfl
def iMax (a0 : Int) (a1 : Int) : Option Int :=
  bif ltB a0 a1 then (some a1) else (some a0)
theorem iMax_c {a0 : Int} {a1 : Int} {r : Int} (H : iMax a0 a1 = some r) : Fn Tryz.prog 68 [aI a0, aI a1] [.c (.d (.i .i64 r))] := by
  refine fn_in Tryz.func68 rfl (by kernel_rfl) Tryz.ntmps68 rfl rfl rfl ?_
  refine wk ?_
  refine awc_cond rfl (fun h => ?_) (fun h => ?_)
  · have H := bt h H
    refine wk ?_
    cases H
    exact fin_ret (.cons (.tmp rfl) .nil) rfl rfl rfl
  · have H := bf h H
    refine wk ?_
    cases H
    exact fin_ret (.cons (.tmp rfl) .nil) rfl rfl rfl
def iBytesOfFirst (a0 : TSession) (a1 : Int) : Option Int :=
  Option.bind (iMax a1 0) fun r1 => Option.bind (iMin r1 ((a0.Submitted.length : Nat) : Int)) fun r2 => bif slOk a0.Submitted 0 r2 then (Option.bind (ipayloadBytes (a0.Submitted.take (r2).toNat)) fun r3 => some r3) else none
theorem iBytesOfFirst_c {a0 : TSession} {a1 : Int} {r : Int} (H : iBytesOfFirst a0 a1 = some r) : Fn Tryz.prog 42 [.agg (eTSession a0), aI a1] [.c (.d (.i .i64 r))] := by
  refine fn_in Tryz.func42 rfl (by kernel_rfl) Tryz.ntmps42 rfl rfl rfl ?_
  refine wkd ?_
  obtain ⟨r1, hr1, H⟩ := ob H
  refine dr_n rfl (ca rfl rfl rfl (iMax_c hr1) trivial rfl rfl rfl rfl) ?_
  refine wkd ?_
  obtain ⟨r2, hr2, H⟩ := ob H
  refine dr_n rfl (ca rfl rfl rfl (iMin_c hr2) trivial rfl rfl rfl rfl) ?_
  refine wkd ?_
  obtain ⟨h, H⟩ := rq H
  refine dr_n rfl (cdhT (enc := eTPayload) h (fun _ => rfl) rfl rfl rfl) ?_
  refine wkd ?_
  obtain ⟨r3, hr3, H⟩ := ob H
  refine dr_n rfl (ca rfl rfl rfl (ipayloadBytes_c hr3) trivial rfl rfl rfl rfl) ?_
  refine wkd ?_
  cases H
  exact fin_ret (.cons (.tmp rfl) .nil) rfl rfl rfl
def iAcknowledgedPackets (a0 : TSession) : Option Int :=
  some (WR ((WR (a0.Window.Next - 1)) - ((a0.Window.Unacked.length : Nat) : Int)))
theorem iAcknowledgedPackets_c {a0 : TSession} {r : Int} (H : iAcknowledgedPackets a0 = some r) : Fn Tryz.prog 43 [.agg (eTSession a0)] [.c (.d (.i .i64 r))] := by
  refine fn_in Tryz.func43 rfl (by kernel_rfl) Tryz.ntmps43 rfl rfl rfl ?_
  refine wk ?_
  cases H
  exact fin_ret (.cons (.tmp rfl) .nil) rfl rfl rfl
def iChargedExactlyOnce (a0 : TNetwork) (a1 : Int) : Option Bool :=
  Option.bind (ihasAccount a0 a1) fun r1 => bif !r1 then (some false) else (Option.bind (ix a0.Sessions a1) fun x2 => Option.bind (iChargedBytes a0 a1) fun r3 => Option.bind (iAcknowledgedPackets x2) fun r4 => Option.bind (iBytesOfFirst x2 r4) fun r5 => some (eqB r3 r5))
theorem iChargedExactlyOnce_c {a0 : TNetwork} {a1 : Int} {r : Bool} (H : iChargedExactlyOnce a0 a1 = some r) : Fn Tryz.prog 12 [.agg (eTNetwork a0), aI a1] [.c (.d (.b r))] := by
  refine fn_in Tryz.func12 rfl (by kernel_rfl) Tryz.ntmps12 rfl rfl rfl ?_
  refine wkd ?_
  obtain ⟨r1, hr1, H⟩ := ob H
  refine awr_n rfl (ca rfl rfl rfl (ihasAccount_c hr1) trivial rfl rfl rfl rfl) ?_
  refine wkd ?_
  refine awc_cond rfl (fun h => ?_) (fun h => ?_)
  · have H := bt h H
    refine wkd ?_
    cases H
    exact fin_ret (.cons (.tmp rfl) .nil) rfl rfl rfl
  · have H := bf h H
    refine wkd ?_
    obtain ⟨x2, hx2, H⟩ := ob H
    refine awr_n rfl (xdT (enc := eTSession) hx2 (fun _ => rfl) rfl rfl rfl) ?_
    refine wkd ?_
    obtain ⟨r3, hr3, H⟩ := ob H
    refine dr_n rfl (ca rfl rfl rfl (iChargedBytes_c hr3) trivial rfl rfl rfl rfl) ?_
    refine wkd ?_
    obtain ⟨r4, hr4, H⟩ := ob H
    refine dr_n rfl (ca rfl rfl rfl (iAcknowledgedPackets_c hr4) trivial rfl rfl rfl rfl) ?_
    refine wkd ?_
    obtain ⟨r5, hr5, H⟩ := ob H
    refine dr_n rfl (ca rfl rfl rfl (iBytesOfFirst_c hr5) trivial rfl rfl rfl rfl) ?_
    refine wkd ?_
    cases H
    exact fin_ret (.cons (.tmp rfl) .nil) rfl rfl rfl
def iIsValidQuota (a0 : TQuota) : Option Bool :=
  Option.bind (bif leB 0 a0.SessionID then (bif leB 0 a0.Used then (bif leB a0.Used a0.Granted then (some (leB a0.Granted 100000)) else (some false)) else (some false)) else (some false)) fun (v1 : Bool) => some v1
theorem iIsValidQuota_c {a0 : TQuota} {r : Bool} (H : iIsValidQuota a0 = some r) : Fn Tryz.prog 70 [.agg (eTQuota a0)] [.c (.d (.b r))] := by
  refine fn_in Tryz.func70 rfl (by kernel_rfl) Tryz.ntmps70 rfl rfl rfl ?_
  refine wk ?_
  obtain ⟨v1, Hj, H⟩ := ob H
  refine awr_join ⟨[(2, tB v1)], [], 0⟩ ?_ ?_
  · have H := Hj
    refine wk ?_
    refine g2 rfl rfl rfl (fun h => ?_) (fun h => ?_)
    · have H := bt h H
      refine wk ?_
      refine g2 rfl rfl rfl (fun h => ?_) (fun h => ?_)
      · have H := bt h H
        refine wk ?_
        refine g2 rfl rfl rfl (fun h => ?_) (fun h => ?_)
        · have H := bt h H
          refine wk ?_
          cases H
          exact weak_of ⟨rfl, rfl, trivial⟩ trivial
        · have H := bf h H
          refine wk ?_
          cases H
          exact weak_of ⟨rfl, rfl, trivial⟩ trivial
      · have H := bf h H
        refine wk ?_
        cases H
        exact weak_of ⟨rfl, rfl, trivial⟩ trivial
    · have H := bf h H
      refine wk ?_
      cases H
      exact weak_of ⟨rfl, rfl, trivial⟩ trivial
  refine wk ?_
  cases H
  exact fin_ret (.cons (.tmp rfl) .nil) rfl rfl rfl
def iRemainingQuota (a0 : TQuota) : Option Int :=
  Option.bind (iIsValidQuota a0) fun r1 => bif !r1 then (some 0) else (some (WR (a0.Granted - a0.Used)))
theorem iRemainingQuota_c {a0 : TQuota} {r : Int} (H : iRemainingQuota a0 = some r) : Fn Tryz.prog 46 [.agg (eTQuota a0)] [.c (.d (.i .i64 r))] := by
  refine fn_in Tryz.func46 rfl (by kernel_rfl) Tryz.ntmps46 rfl rfl rfl ?_
  refine wk ?_
  obtain ⟨r1, hr1, H⟩ := ob H
  refine awr_n rfl (ca rfl rfl rfl (iIsValidQuota_c hr1) trivial rfl rfl rfl rfl) ?_
  refine wk ?_
  refine awc_cond rfl (fun h => ?_) (fun h => ?_)
  · have H := bt h H
    refine wk ?_
    cases H
    exact fin_ret (.cons (.tmp rfl) .nil) rfl rfl rfl
  · have H := bf h H
    refine wk ?_
    cases H
    exact fin_ret (.cons (.tmp rfl) .nil) rfl rfl rfl
def iCanAfford (a0 : TNetwork) (a1 : Int) : Option Bool :=
  Option.bind (ihasAccount a0 a1) fun r1 => bif !r1 then (some false) else (Option.bind (ix a0.Sessions a1) fun x2 => Option.bind (ipayloadBytes x2.Submitted) fun r3 => Option.bind (iChargedBytes a0 a1) fun r4 => Option.bind (ix a0.Accounts a1) fun x5 => Option.bind (iRemainingQuota x2.Usage) fun r6 => some (leB (WR (r3 - r4)) (WR (x5.Available + r6))))
theorem iCanAfford_c {a0 : TNetwork} {a1 : Int} {r : Bool} (H : iCanAfford a0 a1 = some r) : Fn Tryz.prog 14 [.agg (eTNetwork a0), aI a1] [.c (.d (.b r))] := by
  refine fn_in Tryz.func14 rfl (by kernel_rfl) Tryz.ntmps14 rfl rfl rfl ?_
  refine wkd ?_
  obtain ⟨r1, hr1, H⟩ := ob H
  refine awr_n rfl (ca rfl rfl rfl (ihasAccount_c hr1) trivial rfl rfl rfl rfl) ?_
  refine wkd ?_
  refine awc_cond rfl (fun h => ?_) (fun h => ?_)
  · have H := bt h H
    refine wkd ?_
    cases H
    exact fin_ret (.cons (.tmp rfl) .nil) rfl rfl rfl
  · have H := bf h H
    refine wkd ?_
    obtain ⟨x2, hx2, H⟩ := ob H
    refine awr_n rfl (xdT (enc := eTSession) hx2 (fun _ => rfl) rfl rfl rfl) ?_
    refine wkd ?_
    obtain ⟨r3, hr3, H⟩ := ob H
    refine dr_n rfl (ca rfl rfl rfl (ipayloadBytes_c hr3) trivial rfl rfl rfl rfl) ?_
    refine wkd ?_
    obtain ⟨r4, hr4, H⟩ := ob H
    refine dr_n rfl (ca rfl rfl rfl (iChargedBytes_c hr4) trivial rfl rfl rfl rfl) ?_
    refine wkd ?_
    obtain ⟨x5, hx5, H⟩ := ob H
    refine dr_n rfl (xdT (enc := eTAccount) hx5 (fun _ => rfl) rfl rfl rfl) ?_
    refine wkd ?_
    obtain ⟨r6, hr6, H⟩ := ob H
    refine dr_n rfl (ca rfl rfl rfl (iRemainingQuota_c hr6) trivial rfl rfl rfl rfl) ?_
    refine wkd ?_
    cases H
    exact fin_ret (.cons (.tmp rfl) .nil) rfl rfl rfl
end Go.AM
