/-
  Own text: a part of the abstract machine for this seat (Nam). No statement is proved here.
-/
import Derived.Test.YtmlpfnppnjfcaaaGreatNag
set_option linter.unusedVariables false
namespace Go.AM
open Go.Proofs
attribute [local irreducible] AWN NS AWO AWR AWC DR Weak iterQ
set_option maxRecDepth 100000
set_option maxHeartbeats 4000000
def lszIntS (a0 : List Int) (a1 : Int) : Option Int :=
  bif ltB (WR (a1 - ((a0.length : Nat) : Int))) 0 then (some (-1)) else (some (WR (a1 - ((a0.length : Nat) : Int))))
theorem lszIntS_c {a0 : List Int} {a1 : Int} {r : Int} (H : lszIntS a0 a1 = some r) : Fn Tryz.prog 182 [aL (a0.map eI), aI a1] [.c (.d (.i .i64 r))] := by
  refine fn_in Tryz.func182 rfl (by kernel_rfl) Tryz.ntmps182 rfl rfl rfl ?_
  refine wk ?_
  refine awc_cond rfl (fun h => ?_) (fun h => ?_)
  · have H := bt h H
    refine wk ?_
    cases H
    exact fin_ret (.cons (.tmp rfl) .nil) rfl rfl rfl
  · have H := bf h H
    refine wk ?_
    cases H
    exact fin_ret (.cons (.tmp rfl) .nil) rfl rfl rfl
def lszCell (a0 : TCell) (a1 : Int) : Option Int :=
  Option.bind (lszIntS a0.Neighbors a1) fun r1 => bif ltB r1 0 then (some (-1)) else (some r1)
theorem lszCell_c {a0 : TCell} {a1 : Int} {r : Int} (H : lszCell a0 a1 = some r) : Fn Tryz.prog 175 [.agg (eTCell a0), aI a1] [.c (.d (.i .i64 r))] := by
  refine fn_in Tryz.func175 rfl (by kernel_rfl) Tryz.ntmps175 rfl rfl rfl ?_
  refine wk ?_
  obtain ⟨r1, hr1, H⟩ := ob H
  refine awr_n rfl (ca rfl rfl rfl (lszIntS_c hr1) trivial rfl rfl rfl rfl) ?_
  refine wk ?_
  refine awc_cond rfl (fun h => ?_) (fun h => ?_)
  · have H := bt h H
    refine wk ?_
    cases H
    exact fin_ret (.cons (.tmp rfl) .nil) rfl rfl rfl
  · have H := bf h H
    refine wk ?_
    cases H
    exact fin_ret (.cons (.tmp rfl) .nil) rfl rfl rfl
def lszCellS_L1 (a0 : List TCell) : (Int × Int) → Option (Step (Int × Int) (Int))
  | (v1, v2) => bif ltB v2 ((a0.length : Nat) : Int) then (Option.bind (ix a0 v2) fun x3 => Option.bind (lszCell x3 v1) fun r4 => bif ltB r4 0 then (dn (some (-1))) else (some (.next (r4, WR (v2 + 1))))) else (dn (some v1))
def lszCellS (a0 : List TCell) (a1 : Int) : Option Int :=
  bif ltB (WR (a1 - ((a0.length : Nat) : Int))) 0 then (some (-1)) else (iter (lszCellS_L1 a0) FU (WR (a1 - ((a0.length : Nat) : Int)), 0))
theorem lszCellS_c {a0 : List TCell} {a1 : Int} {r : Int} (H : lszCellS a0 a1 = some r) : Fn Tryz.prog 117 [aL (a0.map eTCell), aI a1] [.c (.d (.i .i64 r))] := by
  refine fn_in Tryz.func117 rfl (by kernel_rfl) Tryz.ntmps117 rfl rfl rfl ?_
  refine wk ?_
  refine awc_cond rfl (fun h => ?_) (fun h => ?_)
  · have H := bt h H
    refine wk ?_
    cases H
    exact fin_ret (.cons (.tmp rfl) .nil) rfl rfl rfl
  · have H := bf h H
    refine wk ?_
    refine awc_iter (fun (q : Int × Int) => ⟨[(0, .v (.c (.d false (.l (a0.map eTCell))))), (1, tI q.1), (5, tI q.2)], [], 0⟩) H (weak_of ⟨rfl, rfl, rfl, rfl, rfl, rfl, trivial⟩ trivial) ?_
    rintro ⟨v1, v2⟩ o H
    try dsimp only
    refine wk ?_
    refine awc_cond rfl (fun h => ?_) (fun h => ?_)
    · have H := bt h H
      refine wk ?_
      obtain ⟨x3, hx3, H⟩ := ob H
      refine awr_n rfl (xdT (enc := eTCell) hx3 (fun _ => rfl) rfl rfl rfl) ?_
      refine wk ?_
      obtain ⟨r4, hr4, H⟩ := ob H
      refine awr_n rfl (ca rfl rfl rfl (lszCell_c hr4) trivial rfl rfl rfl rfl) ?_
      refine wk ?_
      refine awc_cond rfl (fun h => ?_) (fun h => ?_)
      · have H := bt h H
        refine wk ?_
        obtain ⟨r0, Hd, rfl⟩ := dnE H
        refine iq_r (fun hq => ?_)
        have H := Hd.trans (congrArg some hq)
        refine wk ?_
        cases H
        exact fin_ret (.cons (.tmp rfl) .nil) rfl rfl rfl
      · have H := bf h H
        refine wk ?_
        cases H
        refine iq_n ?_
        exact weak_of ⟨rfl, rfl, rfl, rfl, rfl, rfl, trivial⟩ trivial
    · have H := bf h H
      refine wk ?_
      obtain ⟨r0, Hd, rfl⟩ := dnE H
      refine iq_e (fun hq => ?_)
      have H := Hd.trans (congrArg some hq)
      refine wk ?_
      cases H
      exact fin_ret (.cons (.tmp rfl) .nil) rfl rfl rfl
def lszCellMap (a0 : TCellMap) (a1 : Int) : Option Int :=
  Option.bind (lszCellS a0.Cells a1) fun r1 => bif ltB r1 0 then (some (-1)) else (some r1)
theorem lszCellMap_c {a0 : TCellMap} {a1 : Int} {r : Int} (H : lszCellMap a0 a1 = some r) : Fn Tryz.prog 58 [.agg (eTCellMap a0), aI a1] [.c (.d (.i .i64 r))] := by
  refine fn_in Tryz.func58 rfl (by kernel_rfl) Tryz.ntmps58 rfl rfl rfl ?_
  refine wk ?_
  obtain ⟨r1, hr1, H⟩ := ob H
  refine awr_n rfl (ca rfl rfl rfl (lszCellS_c hr1) trivial rfl rfl rfl rfl) ?_
  refine wk ?_
  refine awc_cond rfl (fun h => ?_) (fun h => ?_)
  · have H := bt h H
    refine wk ?_
    cases H
    exact fin_ret (.cons (.tmp rfl) .nil) rfl rfl rfl
  · have H := bf h H
    refine wk ?_
    cases H
    exact fin_ret (.cons (.tmp rfl) .nil) rfl rfl rfl
def lszByteS (a0 : List Int) (a1 : Int) : Option Int :=
  bif ltB (WR (a1 - ((a0.length : Nat) : Int))) 0 then (some (-1)) else (some (WR (a1 - ((a0.length : Nat) : Int))))
theorem lszByteS_c {a0 : List Int} {a1 : Int} {r : Int} (H : lszByteS a0 a1 = some r) : Fn Tryz.prog 255 [aL (a0.map eU8), aI a1] [.c (.d (.i .i64 r))] := by
  refine fn_in Tryz.func255 rfl (by kernel_rfl) Tryz.ntmps255 rfl rfl rfl ?_
  refine wk ?_
  refine awc_cond rfl (fun h => ?_) (fun h => ?_)
  · have H := bt h H
    refine wk ?_
    cases H
    exact fin_ret (.cons (.tmp rfl) .nil) rfl rfl rfl
  · have H := bf h H
    refine wk ?_
    cases H
    exact fin_ret (.cons (.tmp rfl) .nil) rfl rfl rfl
def lszPayload (a0 : TPayload) (a1 : Int) : Option Int :=
  Option.bind (lszByteS a0.Data a1) fun r1 => bif ltB r1 0 then (some (-1)) else (some r1)
theorem lszPayload_c {a0 : TPayload} {a1 : Int} {r : Int} (H : lszPayload a0 a1 = some r) : Fn Tryz.prog 233 [.agg (eTPayload a0), aI a1] [.c (.d (.i .i64 r))] := by
  refine fn_in Tryz.func233 rfl (by kernel_rfl) Tryz.ntmps233 rfl rfl rfl ?_
  refine wk ?_
  obtain ⟨r1, hr1, H⟩ := ob H
  refine awr_n rfl (ca rfl rfl rfl (lszByteS_c hr1) trivial rfl rfl rfl rfl) ?_
  refine wk ?_
  refine awc_cond rfl (fun h => ?_) (fun h => ?_)
  · have H := bt h H
    refine wk ?_
    cases H
    exact fin_ret (.cons (.tmp rfl) .nil) rfl rfl rfl
  · have H := bf h H
    refine wk ?_
    cases H
    exact fin_ret (.cons (.tmp rfl) .nil) rfl rfl rfl
def lszPayloadS_L1 (a0 : List TPayload) : (Int × Int) → Option (Step (Int × Int) (Int))
  | (v1, v2) => bif ltB v2 ((a0.length : Nat) : Int) then (Option.bind (ix a0 v2) fun x3 => Option.bind (lszPayload x3 v1) fun r4 => bif ltB r4 0 then (dn (some (-1))) else (some (.next (r4, WR (v2 + 1))))) else (dn (some v1))
def lszPayloadS (a0 : List TPayload) (a1 : Int) : Option Int :=
  bif ltB (WR (a1 - ((a0.length : Nat) : Int))) 0 then (some (-1)) else (iter (lszPayloadS_L1 a0) FU (WR (a1 - ((a0.length : Nat) : Int)), 0))
theorem lszPayloadS_c {a0 : List TPayload} {a1 : Int} {r : Int} (H : lszPayloadS a0 a1 = some r) : Fn Tryz.prog 178 [aL (a0.map eTPayload), aI a1] [.c (.d (.i .i64 r))] := by
  refine fn_in Tryz.func178 rfl (by kernel_rfl) Tryz.ntmps178 rfl rfl rfl ?_
  refine wk ?_
  refine awc_cond rfl (fun h => ?_) (fun h => ?_)
  · have H := bt h H
    refine wk ?_
    cases H
    exact fin_ret (.cons (.tmp rfl) .nil) rfl rfl rfl
  · have H := bf h H
    refine wk ?_
    refine awc_iter (fun (q : Int × Int) => ⟨[(0, .v (.c (.d false (.l (a0.map eTPayload))))), (1, tI q.1), (5, tI q.2)], [], 0⟩) H (weak_of ⟨rfl, rfl, rfl, rfl, rfl, rfl, trivial⟩ trivial) ?_
    rintro ⟨v1, v2⟩ o H
    try dsimp only
    refine wk ?_
    refine awc_cond rfl (fun h => ?_) (fun h => ?_)
    · have H := bt h H
      refine wk ?_
      obtain ⟨x3, hx3, H⟩ := ob H
      refine awr_n rfl (xdT (enc := eTPayload) hx3 (fun _ => rfl) rfl rfl rfl) ?_
      refine wk ?_
      obtain ⟨r4, hr4, H⟩ := ob H
      refine awr_n rfl (ca rfl rfl rfl (lszPayload_c hr4) trivial rfl rfl rfl rfl) ?_
      refine wk ?_
      refine awc_cond rfl (fun h => ?_) (fun h => ?_)
      · have H := bt h H
        refine wk ?_
        obtain ⟨r0, Hd, rfl⟩ := dnE H
        refine iq_r (fun hq => ?_)
        have H := Hd.trans (congrArg some hq)
        refine wk ?_
        cases H
        exact fin_ret (.cons (.tmp rfl) .nil) rfl rfl rfl
      · have H := bf h H
        refine wk ?_
        cases H
        refine iq_n ?_
        exact weak_of ⟨rfl, rfl, rfl, rfl, rfl, rfl, trivial⟩ trivial
    · have H := bf h H
      refine wk ?_
      obtain ⟨r0, Hd, rfl⟩ := dnE H
      refine iq_e (fun hq => ?_)
      have H := Hd.trans (congrArg some hq)
      refine wk ?_
      cases H
      exact fin_ret (.cons (.tmp rfl) .nil) rfl rfl rfl
def lszNumberedPacket (a0 : TNumberedPacket) (a1 : Int) : Option Int :=
  Option.bind (lszByteS a0.Data a1) fun r1 => bif ltB r1 0 then (some (-1)) else (some r1)
theorem lszNumberedPacket_c {a0 : TNumberedPacket} {a1 : Int} {r : Int} (H : lszNumberedPacket a0 a1 = some r) : Fn Tryz.prog 254 [.agg (eTNumberedPacket a0), aI a1] [.c (.d (.i .i64 r))] := by
  refine fn_in Tryz.func254 rfl (by kernel_rfl) Tryz.ntmps254 rfl rfl rfl ?_
  refine wk ?_
  obtain ⟨r1, hr1, H⟩ := ob H
  refine awr_n rfl (ca rfl rfl rfl (lszByteS_c hr1) trivial rfl rfl rfl rfl) ?_
  refine wk ?_
  refine awc_cond rfl (fun h => ?_) (fun h => ?_)
  · have H := bt h H
    refine wk ?_
    cases H
    exact fin_ret (.cons (.tmp rfl) .nil) rfl rfl rfl
  · have H := bf h H
    refine wk ?_
    cases H
    exact fin_ret (.cons (.tmp rfl) .nil) rfl rfl rfl
def lszNumberedPacketS_L1 (a0 : List TNumberedPacket) : (Int × Int) → Option (Step (Int × Int) (Int))
  | (v1, v2) => bif ltB v2 ((a0.length : Nat) : Int) then (Option.bind (ix a0 v2) fun x3 => Option.bind (lszNumberedPacket x3 v1) fun r4 => bif ltB r4 0 then (dn (some (-1))) else (some (.next (r4, WR (v2 + 1))))) else (dn (some v1))
def lszNumberedPacketS (a0 : List TNumberedPacket) (a1 : Int) : Option Int :=
  bif ltB (WR (a1 - ((a0.length : Nat) : Int))) 0 then (some (-1)) else (iter (lszNumberedPacketS_L1 a0) FU (WR (a1 - ((a0.length : Nat) : Int)), 0))
theorem lszNumberedPacketS_c {a0 : List TNumberedPacket} {a1 : Int} {r : Int} (H : lszNumberedPacketS a0 a1 = some r) : Fn Tryz.prog 232 [aL (a0.map eTNumberedPacket), aI a1] [.c (.d (.i .i64 r))] := by
  refine fn_in Tryz.func232 rfl (by kernel_rfl) Tryz.ntmps232 rfl rfl rfl ?_
  refine wk ?_
  refine awc_cond rfl (fun h => ?_) (fun h => ?_)
  · have H := bt h H
    refine wk ?_
    cases H
    exact fin_ret (.cons (.tmp rfl) .nil) rfl rfl rfl
  · have H := bf h H
    refine wk ?_
    refine awc_iter (fun (q : Int × Int) => ⟨[(0, .v (.c (.d false (.l (a0.map eTNumberedPacket))))), (1, tI q.1), (5, tI q.2)], [], 0⟩) H (weak_of ⟨rfl, rfl, rfl, rfl, rfl, rfl, trivial⟩ trivial) ?_
    rintro ⟨v1, v2⟩ o H
    try dsimp only
    refine wk ?_
    refine awc_cond rfl (fun h => ?_) (fun h => ?_)
    · have H := bt h H
      refine wk ?_
      obtain ⟨x3, hx3, H⟩ := ob H
      refine awr_n rfl (xdT (enc := eTNumberedPacket) hx3 (fun _ => rfl) rfl rfl rfl) ?_
      refine wk ?_
      obtain ⟨r4, hr4, H⟩ := ob H
      refine awr_n rfl (ca rfl rfl rfl (lszNumberedPacket_c hr4) trivial rfl rfl rfl rfl) ?_
      refine wk ?_
      refine awc_cond rfl (fun h => ?_) (fun h => ?_)
      · have H := bt h H
        refine wk ?_
        obtain ⟨r0, Hd, rfl⟩ := dnE H
        refine iq_r (fun hq => ?_)
        have H := Hd.trans (congrArg some hq)
        refine wk ?_
        cases H
        exact fin_ret (.cons (.tmp rfl) .nil) rfl rfl rfl
      · have H := bf h H
        refine wk ?_
        cases H
        refine iq_n ?_
        exact weak_of ⟨rfl, rfl, rfl, rfl, rfl, rfl, trivial⟩ trivial
    · have H := bf h H
      refine wk ?_
      obtain ⟨r0, Hd, rfl⟩ := dnE H
      refine iq_e (fun hq => ?_)
      have H := Hd.trans (congrArg some hq)
      refine wk ?_
      cases H
      exact fin_ret (.cons (.tmp rfl) .nil) rfl rfl rfl
def lszReceiveWindow (a0 : TReceiveWindow) (a1 : Int) : Option Int :=
  Option.bind (lszNumberedPacketS a0.Pending a1) fun r1 => bif ltB r1 0 then (some (-1)) else (Option.bind (lszPayloadS a0.Delivered r1) fun r2 => bif ltB r2 0 then (some (-1)) else (some r2))
theorem lszReceiveWindow_c {a0 : TReceiveWindow} {a1 : Int} {r : Int} (H : lszReceiveWindow a0 a1 = some r) : Fn Tryz.prog 176 [.agg (eTReceiveWindow a0), aI a1] [.c (.d (.i .i64 r))] := by
  refine fn_in Tryz.func176 rfl (by kernel_rfl) Tryz.ntmps176 rfl rfl rfl ?_
  refine wk ?_
  obtain ⟨r1, hr1, H⟩ := ob H
  refine awr_n rfl (ca rfl rfl rfl (lszNumberedPacketS_c hr1) trivial rfl rfl rfl rfl) ?_
  refine wk ?_
  refine awc_cond rfl (fun h => ?_) (fun h => ?_)
  · have H := bt h H
    refine wk ?_
    cases H
    exact fin_ret (.cons (.tmp rfl) .nil) rfl rfl rfl
  · have H := bf h H
    refine wk ?_
    obtain ⟨r2, hr2, H⟩ := ob H
    refine awr_n rfl (ca rfl rfl rfl (lszPayloadS_c hr2) trivial rfl rfl rfl rfl) ?_
    refine wk ?_
    refine awc_cond rfl (fun h => ?_) (fun h => ?_)
    · have H := bt h H
      refine wk ?_
      cases H
      exact fin_ret (.cons (.tmp rfl) .nil) rfl rfl rfl
    · have H := bf h H
      refine wk ?_
      cases H
      exact fin_ret (.cons (.tmp rfl) .nil) rfl rfl rfl
def lszDevice (a0 : TDevice) (a1 : Int) : Option Int :=
  Option.bind (lszReceiveWindow a0.Receiver a1) fun r1 => bif ltB r1 0 then (some (-1)) else (some r1)
theorem lszDevice_c {a0 : TDevice} {a1 : Int} {r : Int} (H : lszDevice a0 a1 = some r) : Fn Tryz.prog 118 [.agg (eTDevice a0), aI a1] [.c (.d (.i .i64 r))] := by
  refine fn_in Tryz.func118 rfl (by kernel_rfl) Tryz.ntmps118 rfl rfl rfl ?_
  refine wk ?_
  obtain ⟨r1, hr1, H⟩ := ob H
  refine awr_n rfl (ca rfl rfl rfl (lszReceiveWindow_c hr1) trivial rfl rfl rfl rfl) ?_
  refine wk ?_
  refine awc_cond rfl (fun h => ?_) (fun h => ?_)
  · have H := bt h H
    refine wk ?_
    cases H
    exact fin_ret (.cons (.tmp rfl) .nil) rfl rfl rfl
  · have H := bf h H
    refine wk ?_
    cases H
    exact fin_ret (.cons (.tmp rfl) .nil) rfl rfl rfl
def lszDeviceS_L1 (a0 : List TDevice) : (Int × Int) → Option (Step (Int × Int) (Int))
  | (v1, v2) => bif ltB v2 ((a0.length : Nat) : Int) then (Option.bind (ix a0 v2) fun x3 => Option.bind (lszDevice x3 v1) fun r4 => bif ltB r4 0 then (dn (some (-1))) else (some (.next (r4, WR (v2 + 1))))) else (dn (some v1))
def lszDeviceS (a0 : List TDevice) (a1 : Int) : Option Int :=
  bif ltB (WR (a1 - ((a0.length : Nat) : Int))) 0 then (some (-1)) else (iter (lszDeviceS_L1 a0) FU (WR (a1 - ((a0.length : Nat) : Int)), 0))
theorem lszDeviceS_c {a0 : List TDevice} {a1 : Int} {r : Int} (H : lszDeviceS a0 a1 = some r) : Fn Tryz.prog 59 [aL (a0.map eTDevice), aI a1] [.c (.d (.i .i64 r))] := by
  refine fn_in Tryz.func59 rfl (by kernel_rfl) Tryz.ntmps59 rfl rfl rfl ?_
  refine wk ?_
  refine awc_cond rfl (fun h => ?_) (fun h => ?_)
  · have H := bt h H
    refine wk ?_
    cases H
    exact fin_ret (.cons (.tmp rfl) .nil) rfl rfl rfl
  · have H := bf h H
    refine wk ?_
    refine awc_iter (fun (q : Int × Int) => ⟨[(0, .v (.c (.d false (.l (a0.map eTDevice))))), (1, tI q.1), (5, tI q.2)], [], 0⟩) H (weak_of ⟨rfl, rfl, rfl, rfl, rfl, rfl, trivial⟩ trivial) ?_
    rintro ⟨v1, v2⟩ o H
    try dsimp only
    refine wk ?_
    refine awc_cond rfl (fun h => ?_) (fun h => ?_)
    · have H := bt h H
      refine wk ?_
      obtain ⟨x3, hx3, H⟩ := ob H
      refine awr_n rfl (xdT (enc := eTDevice) hx3 (fun _ => rfl) rfl rfl rfl) ?_
      refine wk ?_
      obtain ⟨r4, hr4, H⟩ := ob H
      refine awr_n rfl (ca rfl rfl rfl (lszDevice_c hr4) trivial rfl rfl rfl rfl) ?_
      refine wk ?_
      refine awc_cond rfl (fun h => ?_) (fun h => ?_)
      · have H := bt h H
        refine wk ?_
        obtain ⟨r0, Hd, rfl⟩ := dnE H
        refine iq_r (fun hq => ?_)
        have H := Hd.trans (congrArg some hq)
        refine wk ?_
        cases H
        exact fin_ret (.cons (.tmp rfl) .nil) rfl rfl rfl
      · have H := bf h H
        refine wk ?_
        cases H
        refine iq_n ?_
        exact weak_of ⟨rfl, rfl, rfl, rfl, rfl, rfl, trivial⟩ trivial
    · have H := bf h H
      refine wk ?_
      obtain ⟨r0, Hd, rfl⟩ := dnE H
      refine iq_e (fun hq => ?_)
      have H := Hd.trans (congrArg some hq)
      refine wk ?_
      cases H
      exact fin_ret (.cons (.tmp rfl) .nil) rfl rfl rfl
def lszSubscription (a0 : TSubscription) (a1 : Int) : Option Int :=
  Option.bind (lszIntS a0.RoamingNetworks a1) fun r1 => bif ltB r1 0 then (some (-1)) else (some r1)
theorem lszSubscription_c {a0 : TSubscription} {a1 : Int} {r : Int} (H : lszSubscription a0 a1 = some r) : Fn Tryz.prog 177 [.agg (eTSubscription a0), aI a1] [.c (.d (.i .i64 r))] := by
  refine fn_in Tryz.func177 rfl (by kernel_rfl) Tryz.ntmps177 rfl rfl rfl ?_
  refine wk ?_
  obtain ⟨r1, hr1, H⟩ := ob H
  refine awr_n rfl (ca rfl rfl rfl (lszIntS_c hr1) trivial rfl rfl rfl rfl) ?_
  refine wk ?_
  refine awc_cond rfl (fun h => ?_) (fun h => ?_)
  · have H := bt h H
    refine wk ?_
    cases H
    exact fin_ret (.cons (.tmp rfl) .nil) rfl rfl rfl
  · have H := bf h H
    refine wk ?_
    cases H
    exact fin_ret (.cons (.tmp rfl) .nil) rfl rfl rfl
def lszSendWindow (a0 : TSendWindow) (a1 : Int) : Option Int :=
  Option.bind (lszNumberedPacketS a0.Unacked a1) fun r1 => bif ltB r1 0 then (some (-1)) else (some r1)
theorem lszSendWindow_c {a0 : TSendWindow} {a1 : Int} {r : Int} (H : lszSendWindow a0 a1 = some r) : Fn Tryz.prog 179 [.agg (eTSendWindow a0), aI a1] [.c (.d (.i .i64 r))] := by
  refine fn_in Tryz.func179 rfl (by kernel_rfl) Tryz.ntmps179 rfl rfl rfl ?_
  refine wk ?_
  obtain ⟨r1, hr1, H⟩ := ob H
  refine awr_n rfl (ca rfl rfl rfl (lszNumberedPacketS_c hr1) trivial rfl rfl rfl rfl) ?_
  refine wk ?_
  refine awc_cond rfl (fun h => ?_) (fun h => ?_)
  · have H := bt h H
    refine wk ?_
    cases H
    exact fin_ret (.cons (.tmp rfl) .nil) rfl rfl rfl
  · have H := bf h H
    refine wk ?_
    cases H
    exact fin_ret (.cons (.tmp rfl) .nil) rfl rfl rfl
def lszSession (a0 : TSession) (a1 : Int) : Option Int :=
  Option.bind (lszSubscription a0.Plan a1) fun r1 => bif ltB r1 0 then (some (-1)) else (Option.bind (lszPayloadS a0.Submitted r1) fun r2 => bif ltB r2 0 then (some (-1)) else (Option.bind (lszSendWindow a0.Window r2) fun r3 => bif ltB r3 0 then (some (-1)) else (some r3)))
theorem lszSession_c {a0 : TSession} {a1 : Int} {r : Int} (H : lszSession a0 a1 = some r) : Fn Tryz.prog 119 [.agg (eTSession a0), aI a1] [.c (.d (.i .i64 r))] := by
  refine fn_in Tryz.func119 rfl (by kernel_rfl) Tryz.ntmps119 rfl rfl rfl ?_
  refine wk ?_
  obtain ⟨r1, hr1, H⟩ := ob H
  refine awr_n rfl (ca rfl rfl rfl (lszSubscription_c hr1) trivial rfl rfl rfl rfl) ?_
  refine wk ?_
  refine awc_cond rfl (fun h => ?_) (fun h => ?_)
  · have H := bt h H
    refine wk ?_
    cases H
    exact fin_ret (.cons (.tmp rfl) .nil) rfl rfl rfl
  · have H := bf h H
    refine wk ?_
    obtain ⟨r2, hr2, H⟩ := ob H
    refine awr_n rfl (ca rfl rfl rfl (lszPayloadS_c hr2) trivial rfl rfl rfl rfl) ?_
    refine wk ?_
    refine awc_cond rfl (fun h => ?_) (fun h => ?_)
    · have H := bt h H
      refine wk ?_
      cases H
      exact fin_ret (.cons (.tmp rfl) .nil) rfl rfl rfl
    · have H := bf h H
      refine wk ?_
      obtain ⟨r3, hr3, H⟩ := ob H
      refine awr_n rfl (ca rfl rfl rfl (lszSendWindow_c hr3) trivial rfl rfl rfl rfl) ?_
      refine wk ?_
      refine awc_cond rfl (fun h => ?_) (fun h => ?_)
      · have H := bt h H
        refine wk ?_
        cases H
        exact fin_ret (.cons (.tmp rfl) .nil) rfl rfl rfl
      · have H := bf h H
        refine wk ?_
        cases H
        exact fin_ret (.cons (.tmp rfl) .nil) rfl rfl rfl
def lszSessionS_L1 (a0 : List TSession) : (Int × Int) → Option (Step (Int × Int) (Int))
  | (v1, v2) => bif ltB v2 ((a0.length : Nat) : Int) then (Option.bind (ix a0 v2) fun x3 => Option.bind (lszSession x3 v1) fun r4 => bif ltB r4 0 then (dn (some (-1))) else (some (.next (r4, WR (v2 + 1))))) else (dn (some v1))
def lszSessionS (a0 : List TSession) (a1 : Int) : Option Int :=
  bif ltB (WR (a1 - ((a0.length : Nat) : Int))) 0 then (some (-1)) else (iter (lszSessionS_L1 a0) FU (WR (a1 - ((a0.length : Nat) : Int)), 0))
theorem lszSessionS_c {a0 : List TSession} {a1 : Int} {r : Int} (H : lszSessionS a0 a1 = some r) : Fn Tryz.prog 60 [aL (a0.map eTSession), aI a1] [.c (.d (.i .i64 r))] := by
  refine fn_in Tryz.func60 rfl (by kernel_rfl) Tryz.ntmps60 rfl rfl rfl ?_
  refine wk ?_
  refine awc_cond rfl (fun h => ?_) (fun h => ?_)
  · have H := bt h H
    refine wk ?_
    cases H
    exact fin_ret (.cons (.tmp rfl) .nil) rfl rfl rfl
  · have H := bf h H
    refine wk ?_
    refine awc_iter (fun (q : Int × Int) => ⟨[(0, .v (.c (.d false (.l (a0.map eTSession))))), (1, tI q.1), (5, tI q.2)], [], 0⟩) H (weak_of ⟨rfl, rfl, rfl, rfl, rfl, rfl, trivial⟩ trivial) ?_
    rintro ⟨v1, v2⟩ o H
    try dsimp only
    refine wk ?_
    refine awc_cond rfl (fun h => ?_) (fun h => ?_)
    · have H := bt h H
      refine wk ?_
      obtain ⟨x3, hx3, H⟩ := ob H
      refine awr_n rfl (xdT (enc := eTSession) hx3 (fun _ => rfl) rfl rfl rfl) ?_
      refine wk ?_
      obtain ⟨r4, hr4, H⟩ := ob H
      refine awr_n rfl (ca rfl rfl rfl (lszSession_c hr4) trivial rfl rfl rfl rfl) ?_
      refine wk ?_
      refine awc_cond rfl (fun h => ?_) (fun h => ?_)
      · have H := bt h H
        refine wk ?_
        obtain ⟨r0, Hd, rfl⟩ := dnE H
        refine iq_r (fun hq => ?_)
        have H := Hd.trans (congrArg some hq)
        refine wk ?_
        cases H
        exact fin_ret (.cons (.tmp rfl) .nil) rfl rfl rfl
      · have H := bf h H
        refine wk ?_
        cases H
        refine iq_n ?_
        exact weak_of ⟨rfl, rfl, rfl, rfl, rfl, rfl, trivial⟩ trivial
    · have H := bf h H
      refine wk ?_
      obtain ⟨r0, Hd, rfl⟩ := dnE H
      refine iq_e (fun hq => ?_)
      have H := Hd.trans (congrArg some hq)
      refine wk ?_
      cases H
      exact fin_ret (.cons (.tmp rfl) .nil) rfl rfl rfl
def lszReservationS (a0 : List TReservation) (a1 : Int) : Option Int :=
  bif ltB (WR (a1 - ((a0.length : Nat) : Int))) 0 then (some (-1)) else (some (WR (a1 - ((a0.length : Nat) : Int))))
theorem lszReservationS_c {a0 : List TReservation} {a1 : Int} {r : Int} (H : lszReservationS a0 a1 = some r) : Fn Tryz.prog 180 [aL (a0.map eTReservation), aI a1] [.c (.d (.i .i64 r))] := by
  refine fn_in Tryz.func180 rfl (by kernel_rfl) Tryz.ntmps180 rfl rfl rfl ?_
  refine wk ?_
  refine awc_cond rfl (fun h => ?_) (fun h => ?_)
  · have H := bt h H
    refine wk ?_
    cases H
    exact fin_ret (.cons (.tmp rfl) .nil) rfl rfl rfl
  · have H := bf h H
    refine wk ?_
    cases H
    exact fin_ret (.cons (.tmp rfl) .nil) rfl rfl rfl
def lszAccount (a0 : TAccount) (a1 : Int) : Option Int :=
  Option.bind (lszReservationS a0.Reservations a1) fun r1 => bif ltB r1 0 then (some (-1)) else (some r1)
theorem lszAccount_c {a0 : TAccount} {a1 : Int} {r : Int} (H : lszAccount a0 a1 = some r) : Fn Tryz.prog 120 [.agg (eTAccount a0), aI a1] [.c (.d (.i .i64 r))] := by
  refine fn_in Tryz.func120 rfl (by kernel_rfl) Tryz.ntmps120 rfl rfl rfl ?_
  refine wk ?_
  obtain ⟨r1, hr1, H⟩ := ob H
  refine awr_n rfl (ca rfl rfl rfl (lszReservationS_c hr1) trivial rfl rfl rfl rfl) ?_
  refine wk ?_
  refine awc_cond rfl (fun h => ?_) (fun h => ?_)
  · have H := bt h H
    refine wk ?_
    cases H
    exact fin_ret (.cons (.tmp rfl) .nil) rfl rfl rfl
  · have H := bf h H
    refine wk ?_
    cases H
    exact fin_ret (.cons (.tmp rfl) .nil) rfl rfl rfl
def lszAccountS_L1 (a0 : List TAccount) : (Int × Int) → Option (Step (Int × Int) (Int))
  | (v1, v2) => bif ltB v2 ((a0.length : Nat) : Int) then (Option.bind (ix a0 v2) fun x3 => Option.bind (lszAccount x3 v1) fun r4 => bif ltB r4 0 then (dn (some (-1))) else (some (.next (r4, WR (v2 + 1))))) else (dn (some v1))
def lszAccountS (a0 : List TAccount) (a1 : Int) : Option Int :=
  bif ltB (WR (a1 - ((a0.length : Nat) : Int))) 0 then (some (-1)) else (iter (lszAccountS_L1 a0) FU (WR (a1 - ((a0.length : Nat) : Int)), 0))
theorem lszAccountS_c {a0 : List TAccount} {a1 : Int} {r : Int} (H : lszAccountS a0 a1 = some r) : Fn Tryz.prog 61 [aL (a0.map eTAccount), aI a1] [.c (.d (.i .i64 r))] := by
  refine fn_in Tryz.func61 rfl (by kernel_rfl) Tryz.ntmps61 rfl rfl rfl ?_
  refine wk ?_
  refine awc_cond rfl (fun h => ?_) (fun h => ?_)
  · have H := bt h H
    refine wk ?_
    cases H
    exact fin_ret (.cons (.tmp rfl) .nil) rfl rfl rfl
  · have H := bf h H
    refine wk ?_
    refine awc_iter (fun (q : Int × Int) => ⟨[(0, .v (.c (.d false (.l (a0.map eTAccount))))), (1, tI q.1), (5, tI q.2)], [], 0⟩) H (weak_of ⟨rfl, rfl, rfl, rfl, rfl, rfl, trivial⟩ trivial) ?_
    rintro ⟨v1, v2⟩ o H
    try dsimp only
    refine wk ?_
    refine awc_cond rfl (fun h => ?_) (fun h => ?_)
    · have H := bt h H
      refine wk ?_
      obtain ⟨x3, hx3, H⟩ := ob H
      refine awr_n rfl (xdT (enc := eTAccount) hx3 (fun _ => rfl) rfl rfl rfl) ?_
      refine wk ?_
      obtain ⟨r4, hr4, H⟩ := ob H
      refine awr_n rfl (ca rfl rfl rfl (lszAccount_c hr4) trivial rfl rfl rfl rfl) ?_
      refine wk ?_
      refine awc_cond rfl (fun h => ?_) (fun h => ?_)
      · have H := bt h H
        refine wk ?_
        obtain ⟨r0, Hd, rfl⟩ := dnE H
        refine iq_r (fun hq => ?_)
        have H := Hd.trans (congrArg some hq)
        refine wk ?_
        cases H
        exact fin_ret (.cons (.tmp rfl) .nil) rfl rfl rfl
      · have H := bf h H
        refine wk ?_
        cases H
        refine iq_n ?_
        exact weak_of ⟨rfl, rfl, rfl, rfl, rfl, rfl, trivial⟩ trivial
    · have H := bf h H
      refine wk ?_
      obtain ⟨r0, Hd, rfl⟩ := dnE H
      refine iq_e (fun hq => ?_)
      have H := Hd.trans (congrArg some hq)
      refine wk ?_
      cases H
      exact fin_ret (.cons (.tmp rfl) .nil) rfl rfl rfl
def lszSecuredMessage (a0 : TSecuredMessage) (a1 : Int) : Option Int :=
  Option.bind (lszByteS a0.Data a1) fun r1 => bif ltB r1 0 then (some (-1)) else (some r1)
theorem lszSecuredMessage_c {a0 : TSecuredMessage} {a1 : Int} {r : Int} (H : lszSecuredMessage a0 a1 = some r) : Fn Tryz.prog 234 [.agg (eTSecuredMessage a0), aI a1] [.c (.d (.i .i64 r))] := by
  refine fn_in Tryz.func234 rfl (by kernel_rfl) Tryz.ntmps234 rfl rfl rfl ?_
  refine wk ?_
  obtain ⟨r1, hr1, H⟩ := ob H
  refine awr_n rfl (ca rfl rfl rfl (lszByteS_c hr1) trivial rfl rfl rfl rfl) ?_
  refine wk ?_
  refine awc_cond rfl (fun h => ?_) (fun h => ?_)
  · have H := bt h H
    refine wk ?_
    cases H
    exact fin_ret (.cons (.tmp rfl) .nil) rfl rfl rfl
  · have H := bf h H
    refine wk ?_
    cases H
    exact fin_ret (.cons (.tmp rfl) .nil) rfl rfl rfl
def lszRadioPacket (a0 : TRadioPacket) (a1 : Int) : Option Int :=
  Option.bind (lszSecuredMessage a0.Message a1) fun r1 => bif ltB r1 0 then (some (-1)) else (some r1)
theorem lszRadioPacket_c {a0 : TRadioPacket} {a1 : Int} {r : Int} (H : lszRadioPacket a0 a1 = some r) : Fn Tryz.prog 181 [.agg (eTRadioPacket a0), aI a1] [.c (.d (.i .i64 r))] := by
  refine fn_in Tryz.func181 rfl (by kernel_rfl) Tryz.ntmps181 rfl rfl rfl ?_
  refine wk ?_
  obtain ⟨r1, hr1, H⟩ := ob H
  refine awr_n rfl (ca rfl rfl rfl (lszSecuredMessage_c hr1) trivial rfl rfl rfl rfl) ?_
  refine wk ?_
  refine awc_cond rfl (fun h => ?_) (fun h => ?_)
  · have H := bt h H
    refine wk ?_
    cases H
    exact fin_ret (.cons (.tmp rfl) .nil) rfl rfl rfl
  · have H := bf h H
    refine wk ?_
    cases H
    exact fin_ret (.cons (.tmp rfl) .nil) rfl rfl rfl
def lszFlight (a0 : TFlight) (a1 : Int) : Option Int :=
  Option.bind (lszRadioPacket a0.Radio a1) fun r1 => bif ltB r1 0 then (some (-1)) else (some r1)
theorem lszFlight_c {a0 : TFlight} {a1 : Int} {r : Int} (H : lszFlight a0 a1 = some r) : Fn Tryz.prog 121 [.agg (eTFlight a0), aI a1] [.c (.d (.i .i64 r))] := by
  refine fn_in Tryz.func121 rfl (by kernel_rfl) Tryz.ntmps121 rfl rfl rfl ?_
  refine wk ?_
  obtain ⟨r1, hr1, H⟩ := ob H
  refine awr_n rfl (ca rfl rfl rfl (lszRadioPacket_c hr1) trivial rfl rfl rfl rfl) ?_
  refine wk ?_
  refine awc_cond rfl (fun h => ?_) (fun h => ?_)
  · have H := bt h H
    refine wk ?_
    cases H
    exact fin_ret (.cons (.tmp rfl) .nil) rfl rfl rfl
  · have H := bf h H
    refine wk ?_
    cases H
    exact fin_ret (.cons (.tmp rfl) .nil) rfl rfl rfl
def lszFlightS_L1 (a0 : List TFlight) : (Int × Int) → Option (Step (Int × Int) (Int))
  | (v1, v2) => bif ltB v2 ((a0.length : Nat) : Int) then (Option.bind (ix a0 v2) fun x3 => Option.bind (lszFlight x3 v1) fun r4 => bif ltB r4 0 then (dn (some (-1))) else (some (.next (r4, WR (v2 + 1))))) else (dn (some v1))
def lszFlightS (a0 : List TFlight) (a1 : Int) : Option Int :=
  bif ltB (WR (a1 - ((a0.length : Nat) : Int))) 0 then (some (-1)) else (iter (lszFlightS_L1 a0) FU (WR (a1 - ((a0.length : Nat) : Int)), 0))
theorem lszFlightS_c {a0 : List TFlight} {a1 : Int} {r : Int} (H : lszFlightS a0 a1 = some r) : Fn Tryz.prog 62 [aL (a0.map eTFlight), aI a1] [.c (.d (.i .i64 r))] := by
  refine fn_in Tryz.func62 rfl (by kernel_rfl) Tryz.ntmps62 rfl rfl rfl ?_
  refine wk ?_
  refine awc_cond rfl (fun h => ?_) (fun h => ?_)
  · have H := bt h H
    refine wk ?_
    cases H
    exact fin_ret (.cons (.tmp rfl) .nil) rfl rfl rfl
  · have H := bf h H
    refine wk ?_
    refine awc_iter (fun (q : Int × Int) => ⟨[(0, .v (.c (.d false (.l (a0.map eTFlight))))), (1, tI q.1), (5, tI q.2)], [], 0⟩) H (weak_of ⟨rfl, rfl, rfl, rfl, rfl, rfl, trivial⟩ trivial) ?_
    rintro ⟨v1, v2⟩ o H
    try dsimp only
    refine wk ?_
    refine awc_cond rfl (fun h => ?_) (fun h => ?_)
    · have H := bt h H
      refine wk ?_
      obtain ⟨x3, hx3, H⟩ := ob H
      refine awr_n rfl (xdT (enc := eTFlight) hx3 (fun _ => rfl) rfl rfl rfl) ?_
      refine wk ?_
      obtain ⟨r4, hr4, H⟩ := ob H
      refine awr_n rfl (ca rfl rfl rfl (lszFlight_c hr4) trivial rfl rfl rfl rfl) ?_
      refine wk ?_
      refine awc_cond rfl (fun h => ?_) (fun h => ?_)
      · have H := bt h H
        refine wk ?_
        obtain ⟨r0, Hd, rfl⟩ := dnE H
        refine iq_r (fun hq => ?_)
        have H := Hd.trans (congrArg some hq)
        refine wk ?_
        cases H
        exact fin_ret (.cons (.tmp rfl) .nil) rfl rfl rfl
      · have H := bf h H
        refine wk ?_
        cases H
        refine iq_n ?_
        exact weak_of ⟨rfl, rfl, rfl, rfl, rfl, rfl, trivial⟩ trivial
    · have H := bf h H
      refine wk ?_
      obtain ⟨r0, Hd, rfl⟩ := dnE H
      refine iq_e (fun hq => ?_)
      have H := Hd.trans (congrArg some hq)
      refine wk ?_
      cases H
      exact fin_ret (.cons (.tmp rfl) .nil) rfl rfl rfl
def lszNetwork (a0 : TNetwork) (a1 : Int) : Option Int :=
  Option.bind (lszCellMap a0.Map a1) fun r1 => bif ltB r1 0 then (some (-1)) else (Option.bind (lszDeviceS a0.Devices r1) fun r2 => bif ltB r2 0 then (some (-1)) else (Option.bind (lszSessionS a0.Sessions r2) fun r3 => bif ltB r3 0 then (some (-1)) else (Option.bind (lszAccountS a0.Accounts r3) fun r4 => bif ltB r4 0 then (some (-1)) else (Option.bind (lszFlightS a0.Flights r4) fun r5 => bif ltB r5 0 then (some (-1)) else (some r5)))))
theorem lszNetwork_c {a0 : TNetwork} {a1 : Int} {r : Int} (H : lszNetwork a0 a1 = some r) : Fn Tryz.prog 13 [.agg (eTNetwork a0), aI a1] [.c (.d (.i .i64 r))] := by
  refine fn_in Tryz.func13 rfl (by kernel_rfl) Tryz.ntmps13 rfl rfl rfl ?_
  refine wk ?_
  obtain ⟨r1, hr1, H⟩ := ob H
  refine awr_n rfl (ca rfl rfl rfl (lszCellMap_c hr1) trivial rfl rfl rfl rfl) ?_
  refine wk ?_
  refine awc_cond rfl (fun h => ?_) (fun h => ?_)
  · have H := bt h H
    refine wk ?_
    cases H
    exact fin_ret (.cons (.tmp rfl) .nil) rfl rfl rfl
  · have H := bf h H
    refine wk ?_
    obtain ⟨r2, hr2, H⟩ := ob H
    refine awr_n rfl (ca rfl rfl rfl (lszDeviceS_c hr2) trivial rfl rfl rfl rfl) ?_
    refine wk ?_
    refine awc_cond rfl (fun h => ?_) (fun h => ?_)
    · have H := bt h H
      refine wk ?_
      cases H
      exact fin_ret (.cons (.tmp rfl) .nil) rfl rfl rfl
    · have H := bf h H
      refine wk ?_
      obtain ⟨r3, hr3, H⟩ := ob H
      refine awr_n rfl (ca rfl rfl rfl (lszSessionS_c hr3) trivial rfl rfl rfl rfl) ?_
      refine wk ?_
      refine awc_cond rfl (fun h => ?_) (fun h => ?_)
      · have H := bt h H
        refine wk ?_
        cases H
        exact fin_ret (.cons (.tmp rfl) .nil) rfl rfl rfl
      · have H := bf h H
        refine wk ?_
        obtain ⟨r4, hr4, H⟩ := ob H
        refine awr_n rfl (ca rfl rfl rfl (lszAccountS_c hr4) trivial rfl rfl rfl rfl) ?_
        refine wk ?_
        refine awc_cond rfl (fun h => ?_) (fun h => ?_)
        · have H := bt h H
          refine wk ?_
          cases H
          exact fin_ret (.cons (.tmp rfl) .nil) rfl rfl rfl
        · have H := bf h H
          refine wk ?_
          obtain ⟨r5, hr5, H⟩ := ob H
          refine awr_n rfl (ca rfl rfl rfl (lszFlightS_c hr5) trivial rfl rfl rfl rfl) ?_
          refine wk ?_
          refine awc_cond rfl (fun h => ?_) (fun h => ?_)
          · have H := bt h H
            refine wk ?_
            cases H
            exact fin_ret (.cons (.tmp rfl) .nil) rfl rfl rfl
          · have H := bf h H
            refine wk ?_
            cases H
            exact fin_ret (.cons (.tmp rfl) .nil) rfl rfl rfl
def lszKeyPath (a0 : TKeyPath) (a1 : Int) : Option Int :=
  Option.bind (lszIntS a0.Steps a1) fun r1 => bif ltB r1 0 then (some (-1)) else (some r1)
theorem lszKeyPath_c {a0 : TKeyPath} {a1 : Int} {r : Int} (H : lszKeyPath a0 a1 = some r) : Fn Tryz.prog 122 [.agg (eTKeyPath a0), aI a1] [.c (.d (.i .i64 r))] := by
  refine fn_in Tryz.func122 rfl (by kernel_rfl) Tryz.ntmps122 rfl rfl rfl ?_
  refine wk ?_
  obtain ⟨r1, hr1, H⟩ := ob H
  refine awr_n rfl (ca rfl rfl rfl (lszIntS_c hr1) trivial rfl rfl rfl rfl) ?_
  refine wk ?_
  refine awc_cond rfl (fun h => ?_) (fun h => ?_)
  · have H := bt h H
    refine wk ?_
    cases H
    exact fin_ret (.cons (.tmp rfl) .nil) rfl rfl rfl
  · have H := bf h H
    refine wk ?_
    cases H
    exact fin_ret (.cons (.tmp rfl) .nil) rfl rfl rfl
def lszLeakedKey (a0 : TLeakedKey) (a1 : Int) : Option Int :=
  Option.bind (lszKeyPath a0.Path a1) fun r1 => bif ltB r1 0 then (some (-1)) else (some r1)
theorem lszLeakedKey_c {a0 : TLeakedKey} {a1 : Int} {r : Int} (H : lszLeakedKey a0 a1 = some r) : Fn Tryz.prog 63 [.agg (eTLeakedKey a0), aI a1] [.c (.d (.i .i64 r))] := by
  refine fn_in Tryz.func63 rfl (by kernel_rfl) Tryz.ntmps63 rfl rfl rfl ?_
  refine wk ?_
  obtain ⟨r1, hr1, H⟩ := ob H
  refine awr_n rfl (ca rfl rfl rfl (lszKeyPath_c hr1) trivial rfl rfl rfl rfl) ?_
  refine wk ?_
  refine awc_cond rfl (fun h => ?_) (fun h => ?_)
  · have H := bt h H
    refine wk ?_
    cases H
    exact fin_ret (.cons (.tmp rfl) .nil) rfl rfl rfl
  · have H := bf h H
    refine wk ?_
    cases H
    exact fin_ret (.cons (.tmp rfl) .nil) rfl rfl rfl
def lszLeakedKeyS_L1 (a0 : List TLeakedKey) : (Int × Int) → Option (Step (Int × Int) (Int))
  | (v1, v2) => bif ltB v2 ((a0.length : Nat) : Int) then (Option.bind (ix a0 v2) fun x3 => Option.bind (lszLeakedKey x3 v1) fun r4 => bif ltB r4 0 then (dn (some (-1))) else (some (.next (r4, WR (v2 + 1))))) else (dn (some v1))
def lszLeakedKeyS (a0 : List TLeakedKey) (a1 : Int) : Option Int :=
  bif ltB (WR (a1 - ((a0.length : Nat) : Int))) 0 then (some (-1)) else (iter (lszLeakedKeyS_L1 a0) FU (WR (a1 - ((a0.length : Nat) : Int)), 0))
theorem lszLeakedKeyS_c {a0 : List TLeakedKey} {a1 : Int} {r : Int} (H : lszLeakedKeyS a0 a1 = some r) : Fn Tryz.prog 14 [aL (a0.map eTLeakedKey), aI a1] [.c (.d (.i .i64 r))] := by
  refine fn_in Tryz.func14 rfl (by kernel_rfl) Tryz.ntmps14 rfl rfl rfl ?_
  refine wk ?_
  refine awc_cond rfl (fun h => ?_) (fun h => ?_)
  · have H := bt h H
    refine wk ?_
    cases H
    exact fin_ret (.cons (.tmp rfl) .nil) rfl rfl rfl
  · have H := bf h H
    refine wk ?_
    refine awc_iter (fun (q : Int × Int) => ⟨[(0, .v (.c (.d false (.l (a0.map eTLeakedKey))))), (1, tI q.1), (5, tI q.2)], [], 0⟩) H (weak_of ⟨rfl, rfl, rfl, rfl, rfl, rfl, trivial⟩ trivial) ?_
    rintro ⟨v1, v2⟩ o H
    try dsimp only
    refine wk ?_
    refine awc_cond rfl (fun h => ?_) (fun h => ?_)
    · have H := bt h H
      refine wk ?_
      obtain ⟨x3, hx3, H⟩ := ob H
      refine awr_n rfl (xdT (enc := eTLeakedKey) hx3 (fun _ => rfl) rfl rfl rfl) ?_
      refine wk ?_
      obtain ⟨r4, hr4, H⟩ := ob H
      refine awr_n rfl (ca rfl rfl rfl (lszLeakedKey_c hr4) trivial rfl rfl rfl rfl) ?_
      refine wk ?_
      refine awc_cond rfl (fun h => ?_) (fun h => ?_)
      · have H := bt h H
        refine wk ?_
        obtain ⟨r0, Hd, rfl⟩ := dnE H
        refine iq_r (fun hq => ?_)
        have H := Hd.trans (congrArg some hq)
        refine wk ?_
        cases H
        exact fin_ret (.cons (.tmp rfl) .nil) rfl rfl rfl
      · have H := bf h H
        refine wk ?_
        cases H
        refine iq_n ?_
        exact weak_of ⟨rfl, rfl, rfl, rfl, rfl, rfl, trivial⟩ trivial
    · have H := bf h H
      refine wk ?_
      obtain ⟨r0, Hd, rfl⟩ := dnE H
      refine iq_e (fun hq => ?_)
      have H := Hd.trans (congrArg some hq)
      refine wk ?_
      cases H
      exact fin_ret (.cons (.tmp rfl) .nil) rfl rfl rfl
def ltoIntS_L1 (a0 : List Int) : (Int × List Int) → Option (Step (Int × List Int) (List Int))
  | (v1, v2) => bif ltB v1 ((a0.length : Nat) : Int) then (Option.bind (ix a0 v1) fun x6 => Option.bind (ix v2 v1) fun x7 => some (.next (WR (v1 + 1), (v2.set (v1).toNat x6)))) else (some (.done v2))
def ltoIntS (a0 : List Int) : Option (List Int) :=
  bif mkOk 8 ((a0.length : Nat) : Int) ((a0.length : Nat) : Int) then (Option.bind (iter (ltoIntS_L1 a0) FU (0, (List.replicate (((a0.length : Nat) : Int)).toNat 0))) fun (v5 : List Int) => some v5) else none
theorem ltoIntS_c {a0 : List Int} {r : List Int} (H : ltoIntS a0 = some r) : Fn Tryz.prog 202 [aL (a0.map eI)] [.c (.own 3 1 (r.map eI) r.length)] := by
  refine fn_in Tryz.func202 rfl (by kernel_rfl) Tryz.ntmps202 rfl rfl rfl ?_
  refine wk ?_
  obtain ⟨h, H⟩ := rq H
  refine awr_n rfl (mkT (enc := eI) (za := 0) h (by rfl) rfl rfl rfl rfl) ?_
  refine wk ?_
  obtain ⟨v5, Hj, H⟩ := ob H
  refine awc_jblk ⟨[(3, .v (.c (.w 0 v5.length)))], [(0, .row 3 1 (v5.map eI) true true)], 1⟩ ?_ ?_
  · refine wk ?_
    refine awc_iter (fun (q : Int × List Int) => ⟨[(0, .v (.c (.d false (.l (a0.map eI))))), (3, .v (.c (.w 0 q.2.length))), (4, tI q.1)], [(0, .row 3 1 (q.2.map eI) true true)], 1⟩) Hj (weak_of ⟨rfl, rfl, wn rfl (by first | rfl | simp), rfl, rfl, rfl, trivial⟩ ⟨rfl, ⟨rfl, rfl⟩, trivial⟩) ?_
    rintro ⟨v1, v2⟩ o H
    try dsimp only
    refine wk ?_
    refine awc_cond rfl (fun h => ?_) (fun h => ?_)
    · have H := bt h H
      refine wk ?_
      obtain ⟨x6, hx6, H⟩ := ob H
      refine awr_n rfl (xdT (enc := eI) hx6 (fun _ => rfl) rfl rfl rfl) ?_
      refine wk ?_
      obtain ⟨x7, hx7, H⟩ := ob H
      refine awr_n rfl (xwT hx7 (by first | rfl | simp) rfl rfl rfl) ?_
      refine wk ?_
      refine awr_step rfl (soT (enc := eI) (a' := x6) hx7 rfl rfl rfl rfl rfl rfl rfl) ?_
      refine wk ?_
      cases H
      refine iq_n ?_
      exact weak_of ⟨rfl, rfl, wn rfl (by first | rfl | simp), rfl, rfl, rfl, trivial⟩ ⟨rfl, ⟨rfl, rfl⟩, trivial⟩
    · have H := bf h H
      refine wk ?_
      cases H
      refine iq_e (fun hq => ?_)
      cases hq
      refine wk ?_
      exact weak_of ⟨wn rfl (by first | rfl | simp), rfl, trivial⟩ ⟨rfl, ⟨rfl, rfl⟩, trivial⟩
  refine wk ?_
  cases H
  exact fin_ret (.cons (.tmp rfl) .nil) rfl rfl (by first | rfl | simp)
def ltoCell (a0 : TCell) : Option TCell :=
  Option.bind (ltoIntS a0.Neighbors) fun r1 => some (⟨a0.Area, r1⟩ : TCell)
theorem ltoCell_c {a0 : TCell} {r : TCell} (H : ltoCell a0 = some r) : Fn Tryz.prog 189 [.agg (eTCell a0)] [.agg [.d (.i .i64 r.Area), .own 3 1 (r.Neighbors.map eI) r.Neighbors.length]] := by
  refine fn_in Tryz.func189 rfl (by kernel_rfl) Tryz.ntmps189 rfl rfl rfl ?_
  refine wk ?_
  obtain ⟨r1, hr1, H⟩ := ob H
  refine awr_n rfl (ca rfl rfl rfl (ltoIntS_c hr1) trivial rfl rfl rfl rfl) ?_
  refine wk ?_
  cases H
  exact fin_ret (.cons (.cell rfl rfl rfl) .nil) rfl rfl (by first | rfl | simp)
def ltoCellS_L1 (a0 : List TCell) : (Int × List TCell) → Option (Step (Int × List TCell) (List TCell))
  | (v1, v2) => bif ltB v1 ((a0.length : Nat) : Int) then (Option.bind (ix a0 v1) fun x7 => Option.bind (ltoCell x7) fun r8 => Option.bind (ix v2 v1) fun x9 => some (.next (WR (v1 + 1), (v2.set (v1).toNat r8)))) else (some (.done v2))
def ltoCellS (a0 : List TCell) : Option (List TCell) :=
  bif mkOk 32 ((a0.length : Nat) : Int) ((a0.length : Nat) : Int) then (Option.bind (iter (ltoCellS_L1 a0) FU (0, (List.replicate (((a0.length : Nat) : Int)).toNat (⟨0, []⟩ : TCell)))) fun (v6 : List TCell) => some v6) else none
theorem ltoCellS_c {a0 : List TCell} {r : List TCell} (H : ltoCellS a0 = some r) : Fn Tryz.prog 128 [aL (a0.map eTCell)] [.c (.own 166 2 (r.map eTCell) r.length)] := by
  refine fn_in Tryz.func128 rfl (by kernel_rfl) Tryz.ntmps128 rfl rfl rfl ?_
  refine wk ?_
  obtain ⟨h, H⟩ := rq H
  refine awr_n rfl (mkT (enc := eTCell) (za := (⟨0, []⟩ : TCell)) h (by rfl) rfl rfl rfl rfl) ?_
  refine wk ?_
  obtain ⟨v6, Hj, H⟩ := ob H
  refine awc_jblk ⟨[(3, .v (.c (.w 0 v6.length)))], [(0, .row 166 2 (v6.map eTCell) true true)], 1⟩ ?_ ?_
  · refine wk ?_
    refine awc_iter (fun (q : Int × List TCell) => ⟨[(0, .v (.c (.d false (.l (a0.map eTCell))))), (3, .v (.c (.w 0 q.2.length))), (4, tI q.1)], [(0, .row 166 2 (q.2.map eTCell) true true)], 1⟩) Hj (weak_of ⟨rfl, rfl, wn rfl (by first | rfl | simp), rfl, rfl, rfl, trivial⟩ ⟨rfl, ⟨rfl, rfl⟩, trivial⟩) ?_
    rintro ⟨v1, v2⟩ o H
    try dsimp only
    refine wk ?_
    refine awc_cond rfl (fun h => ?_) (fun h => ?_)
    · have H := bt h H
      refine wk ?_
      obtain ⟨x7, hx7, H⟩ := ob H
      refine awr_n rfl (xdT (enc := eTCell) hx7 (fun _ => rfl) rfl rfl rfl) ?_
      refine wk ?_
      obtain ⟨r8, hr8, H⟩ := ob H
      refine awr_n rfl (ca rfl rfl rfl (ltoCell_c hr8) trivial rfl rfl rfl rfl) ?_
      refine wk ?_
      obtain ⟨x9, hx9, H⟩ := ob H
      refine awr_n rfl (xwT hx9 (by first | rfl | simp) rfl rfl rfl) ?_
      refine wk ?_
      refine awr_weak (weak_frz (o := 1) rfl rfl) ?_
      refine awr_weak (weak_cast (k := 20) rfl rfl ⟨by first | rfl | simp, trivial⟩) ?_
      refine awr_step rfl (soT (enc := eTCell) (a' := r8) hx9 rfl rfl rfl rfl rfl rfl rfl) ?_
      refine wk ?_
      cases H
      refine iq_n ?_
      exact weak_of ⟨rfl, rfl, wn rfl (by first | rfl | simp), rfl, rfl, rfl, trivial⟩ ⟨rfl, ⟨rfl, rfl⟩, trivial⟩
    · have H := bf h H
      refine wk ?_
      cases H
      refine iq_e (fun hq => ?_)
      cases hq
      refine wk ?_
      exact weak_of ⟨wn rfl (by first | rfl | simp), rfl, trivial⟩ ⟨rfl, ⟨rfl, rfl⟩, trivial⟩
  refine wk ?_
  cases H
  exact fin_ret (.cons (.tmp rfl) .nil) rfl rfl (by first | rfl | simp)
def ltoCellMap (a0 : TCellMap) : Option TCellMap :=
  Option.bind (ltoCellS a0.Cells) fun r1 => some (⟨r1⟩ : TCellMap)
theorem ltoCellMap_c {a0 : TCellMap} {r : TCellMap} (H : ltoCellMap a0 = some r) : Fn Tryz.prog 66 [.agg (eTCellMap a0)] [.agg [.own 166 2 (r.Cells.map eTCell) r.Cells.length]] := by
  refine fn_in Tryz.func66 rfl (by kernel_rfl) Tryz.ntmps66 rfl rfl rfl ?_
  refine wk ?_
  obtain ⟨r1, hr1, H⟩ := ob H
  refine awr_n rfl (ca rfl rfl rfl (ltoCellS_c hr1) trivial rfl rfl rfl rfl) ?_
  refine wk ?_
  cases H
  exact fin_ret (.cons (.cell rfl rfl rfl) .nil) rfl rfl (by first | rfl | simp)
def ltoSubscriberID (a0 : TSubscriberID) : Option TSubscriberID :=
  some a0
theorem ltoSubscriberID_c {a0 : TSubscriberID} {r : TSubscriberID} (H : ltoSubscriberID a0 = some r) : Fn Tryz.prog 239 [.agg (eTSubscriberID a0)] [.agg [.d (.i .i64 r.Network), .d (.i .i64 r.Number)]] := by
  refine fn_in Tryz.func239 rfl (by kernel_rfl) Tryz.ntmps239 rfl rfl rfl ?_
  refine wk ?_
  cases H
  exact fin_ret (.cons (.cell rfl rfl rfl) .nil) rfl rfl rfl
def ltoUSIM (a0 : TUSIM) : Option TUSIM :=
  Option.bind (ltoSubscriberID a0.ID) fun r1 => some (⟨r1, a0.Key, a0.LastSeq⟩ : TUSIM)
theorem ltoUSIM_c {a0 : TUSIM} {r : TUSIM} (H : ltoUSIM a0 = some r) : Fn Tryz.prog 190 [.agg (eTUSIM a0)] [.agg [.d (.i .i64 r.ID.Network), .d (.i .i64 r.ID.Number), .d (.i .i64 r.Key), .d (.i .i64 r.LastSeq)]] := by
  refine fn_in Tryz.func190 rfl (by kernel_rfl) Tryz.ntmps190 rfl rfl rfl ?_
  refine wk ?_
  obtain ⟨r1, hr1, H⟩ := ob H
  refine awr_n rfl (ca rfl rfl rfl (ltoSubscriberID_c hr1) trivial rfl rfl rfl rfl) ?_
  refine wk ?_
  cases H
  exact fin_ret (.cons (.cell rfl rfl rfl) .nil) rfl rfl rfl
def ltoByteS_L1 (a0 : List Int) : (Int × List Int) → Option (Step (Int × List Int) (List Int))
  | (v1, v2) => bif ltB v1 ((a0.length : Nat) : Int) then (Option.bind (ix a0 v1) fun x6 => Option.bind (ix v2 v1) fun x7 => some (.next (WR (v1 + 1), (v2.set (v1).toNat x6)))) else (some (.done v2))
def ltoByteS (a0 : List Int) : Option (List Int) :=
  bif mkOk 1 ((a0.length : Nat) : Int) ((a0.length : Nat) : Int) then (Option.bind (iter (ltoByteS_L1 a0) FU (0, (List.replicate (((a0.length : Nat) : Int)).toNat 0))) fun (v5 : List Int) => some v5) else none
theorem ltoByteS_c {a0 : List Int} {r : List Int} (H : ltoByteS a0 = some r) : Fn Tryz.prog 259 [aL (a0.map eU8)] [.c (.own 5 1 (r.map eU8) r.length)] := by
  refine fn_in Tryz.func259 rfl (by kernel_rfl) Tryz.ntmps259 rfl rfl rfl ?_
  refine wk ?_
  obtain ⟨h, H⟩ := rq H
  refine awr_n rfl (mkT (enc := eU8) (za := 0) h (by rfl) rfl rfl rfl rfl) ?_
  refine wk ?_
  obtain ⟨v5, Hj, H⟩ := ob H
  refine awc_jblk ⟨[(3, .v (.c (.w 0 v5.length)))], [(0, .row 5 1 (v5.map eU8) true true)], 1⟩ ?_ ?_
  · refine wk ?_
    refine awc_iter (fun (q : Int × List Int) => ⟨[(0, .v (.c (.d false (.l (a0.map eU8))))), (3, .v (.c (.w 0 q.2.length))), (4, tI q.1)], [(0, .row 5 1 (q.2.map eU8) true true)], 1⟩) Hj (weak_of ⟨rfl, rfl, wn rfl (by first | rfl | simp), rfl, rfl, rfl, trivial⟩ ⟨rfl, ⟨rfl, rfl⟩, trivial⟩) ?_
    rintro ⟨v1, v2⟩ o H
    try dsimp only
    refine wk ?_
    refine awc_cond rfl (fun h => ?_) (fun h => ?_)
    · have H := bt h H
      refine wk ?_
      obtain ⟨x6, hx6, H⟩ := ob H
      refine awr_n rfl (xdT (enc := eU8) hx6 (fun _ => rfl) rfl rfl rfl) ?_
      refine wk ?_
      obtain ⟨x7, hx7, H⟩ := ob H
      refine awr_n rfl (xwT hx7 (by first | rfl | simp) rfl rfl rfl) ?_
      refine wk ?_
      refine awr_step rfl (soT (enc := eU8) (a' := x6) hx7 rfl rfl rfl rfl rfl rfl rfl) ?_
      refine wk ?_
      cases H
      refine iq_n ?_
      exact weak_of ⟨rfl, rfl, wn rfl (by first | rfl | simp), rfl, rfl, rfl, trivial⟩ ⟨rfl, ⟨rfl, rfl⟩, trivial⟩
    · have H := bf h H
      refine wk ?_
      cases H
      refine iq_e (fun hq => ?_)
      cases hq
      refine wk ?_
      exact weak_of ⟨wn rfl (by first | rfl | simp), rfl, trivial⟩ ⟨rfl, ⟨rfl, rfl⟩, trivial⟩
  refine wk ?_
  cases H
  exact fin_ret (.cons (.tmp rfl) .nil) rfl rfl (by first | rfl | simp)
def ltoPayload (a0 : TPayload) : Option TPayload :=
  Option.bind (ltoByteS a0.Data) fun r1 => some (⟨r1⟩ : TPayload)
theorem ltoPayload_c {a0 : TPayload} {r : TPayload} (H : ltoPayload a0 = some r) : Fn Tryz.prog 241 [.agg (eTPayload a0)] [.agg [.own 5 1 (r.Data.map eU8) r.Data.length]] := by
  refine fn_in Tryz.func241 rfl (by kernel_rfl) Tryz.ntmps241 rfl rfl rfl ?_
  refine wk ?_
  obtain ⟨r1, hr1, H⟩ := ob H
  refine awr_n rfl (ca rfl rfl rfl (ltoByteS_c hr1) trivial rfl rfl rfl rfl) ?_
  refine wk ?_
  cases H
  exact fin_ret (.cons (.cell rfl rfl rfl) .nil) rfl rfl (by first | rfl | simp)
def ltoPayloadS_L1 (a0 : List TPayload) : (Int × List TPayload) → Option (Step (Int × List TPayload) (List TPayload))
  | (v1, v2) => bif ltB v1 ((a0.length : Nat) : Int) then (Option.bind (ix a0 v1) fun x7 => Option.bind (ltoPayload x7) fun r8 => Option.bind (ix v2 v1) fun x9 => some (.next (WR (v1 + 1), (v2.set (v1).toNat r8)))) else (some (.done v2))
def ltoPayloadS (a0 : List TPayload) : Option (List TPayload) :=
  bif mkOk 24 ((a0.length : Nat) : Int) ((a0.length : Nat) : Int) then (Option.bind (iter (ltoPayloadS_L1 a0) FU (0, (List.replicate (((a0.length : Nat) : Int)).toNat (⟨[]⟩ : TPayload)))) fun (v6 : List TPayload) => some v6) else none
theorem ltoPayloadS_c {a0 : List TPayload} {r : List TPayload} (H : ltoPayloadS a0 = some r) : Fn Tryz.prog 196 [aL (a0.map eTPayload)] [.c (.own 255 1 (r.map eTPayload) r.length)] := by
  refine fn_in Tryz.func196 rfl (by kernel_rfl) Tryz.ntmps196 rfl rfl rfl ?_
  refine wk ?_
  obtain ⟨h, H⟩ := rq H
  refine awr_n rfl (mkT (enc := eTPayload) (za := (⟨[]⟩ : TPayload)) h (by rfl) rfl rfl rfl rfl) ?_
  refine wk ?_
  obtain ⟨v6, Hj, H⟩ := ob H
  refine awc_jblk ⟨[(3, .v (.c (.w 0 v6.length)))], [(0, .row 255 1 (v6.map eTPayload) true true)], 1⟩ ?_ ?_
  · refine wk ?_
    refine awc_iter (fun (q : Int × List TPayload) => ⟨[(0, .v (.c (.d false (.l (a0.map eTPayload))))), (3, .v (.c (.w 0 q.2.length))), (4, tI q.1)], [(0, .row 255 1 (q.2.map eTPayload) true true)], 1⟩) Hj (weak_of ⟨rfl, rfl, wn rfl (by first | rfl | simp), rfl, rfl, rfl, trivial⟩ ⟨rfl, ⟨rfl, rfl⟩, trivial⟩) ?_
    rintro ⟨v1, v2⟩ o H
    try dsimp only
    refine wk ?_
    refine awc_cond rfl (fun h => ?_) (fun h => ?_)
    · have H := bt h H
      refine wk ?_
      obtain ⟨x7, hx7, H⟩ := ob H
      refine awr_n rfl (xdT (enc := eTPayload) hx7 (fun _ => rfl) rfl rfl rfl) ?_
      refine wk ?_
      obtain ⟨r8, hr8, H⟩ := ob H
      refine awr_n rfl (ca rfl rfl rfl (ltoPayload_c hr8) trivial rfl rfl rfl rfl) ?_
      refine wk ?_
      obtain ⟨x9, hx9, H⟩ := ob H
      refine awr_n rfl (xwT hx9 (by first | rfl | simp) rfl rfl rfl) ?_
      refine wk ?_
      refine awr_weak (weak_frz (o := 1) rfl rfl) ?_
      refine awr_weak (weak_cast (k := 20) rfl rfl ⟨by first | rfl | simp, trivial⟩) ?_
      refine awr_step rfl (soT (enc := eTPayload) (a' := r8) hx9 rfl rfl rfl rfl rfl rfl rfl) ?_
      refine wk ?_
      cases H
      refine iq_n ?_
      exact weak_of ⟨rfl, rfl, wn rfl (by first | rfl | simp), rfl, rfl, rfl, trivial⟩ ⟨rfl, ⟨rfl, rfl⟩, trivial⟩
    · have H := bf h H
      refine wk ?_
      cases H
      refine iq_e (fun hq => ?_)
      cases hq
      refine wk ?_
      exact weak_of ⟨wn rfl (by first | rfl | simp), rfl, trivial⟩ ⟨rfl, ⟨rfl, rfl⟩, trivial⟩
  refine wk ?_
  cases H
  exact fin_ret (.cons (.tmp rfl) .nil) rfl rfl (by first | rfl | simp)
def ltoNumberedPacket (a0 : TNumberedPacket) : Option TNumberedPacket :=
  Option.bind (ltoByteS a0.Data) fun r1 => some (⟨a0.Seq, r1⟩ : TNumberedPacket)
theorem ltoNumberedPacket_c {a0 : TNumberedPacket} {r : TNumberedPacket} (H : ltoNumberedPacket a0 = some r) : Fn Tryz.prog 258 [.agg (eTNumberedPacket a0)] [.agg [.d (.i .i64 r.Seq), .own 5 1 (r.Data.map eU8) r.Data.length]] := by
  refine fn_in Tryz.func258 rfl (by kernel_rfl) Tryz.ntmps258 rfl rfl rfl ?_
  refine wk ?_
  obtain ⟨r1, hr1, H⟩ := ob H
  refine awr_n rfl (ca rfl rfl rfl (ltoByteS_c hr1) trivial rfl rfl rfl rfl) ?_
  refine wk ?_
  cases H
  exact fin_ret (.cons (.cell rfl rfl rfl) .nil) rfl rfl (by first | rfl | simp)
def ltoNumberedPacketS_L1 (a0 : List TNumberedPacket) : (Int × List TNumberedPacket) → Option (Step (Int × List TNumberedPacket) (List TNumberedPacket))
  | (v1, v2) => bif ltB v1 ((a0.length : Nat) : Int) then (Option.bind (ix a0 v1) fun x7 => Option.bind (ltoNumberedPacket x7) fun r8 => Option.bind (ix v2 v1) fun x9 => some (.next (WR (v1 + 1), (v2.set (v1).toNat r8)))) else (some (.done v2))
def ltoNumberedPacketS (a0 : List TNumberedPacket) : Option (List TNumberedPacket) :=
  bif mkOk 32 ((a0.length : Nat) : Int) ((a0.length : Nat) : Int) then (Option.bind (iter (ltoNumberedPacketS_L1 a0) FU (0, (List.replicate (((a0.length : Nat) : Int)).toNat (⟨0, []⟩ : TNumberedPacket)))) fun (v6 : List TNumberedPacket) => some v6) else none
theorem ltoNumberedPacketS_c {a0 : List TNumberedPacket} {r : List TNumberedPacket} (H : ltoNumberedPacketS a0 = some r) : Fn Tryz.prog 240 [aL (a0.map eTNumberedPacket)] [.c (.own 136 2 (r.map eTNumberedPacket) r.length)] := by
  refine fn_in Tryz.func240 rfl (by kernel_rfl) Tryz.ntmps240 rfl rfl rfl ?_
  refine wk ?_
  obtain ⟨h, H⟩ := rq H
  refine awr_n rfl (mkT (enc := eTNumberedPacket) (za := (⟨0, []⟩ : TNumberedPacket)) h (by rfl) rfl rfl rfl rfl) ?_
  refine wk ?_
  obtain ⟨v6, Hj, H⟩ := ob H
  refine awc_jblk ⟨[(3, .v (.c (.w 0 v6.length)))], [(0, .row 136 2 (v6.map eTNumberedPacket) true true)], 1⟩ ?_ ?_
  · refine wk ?_
    refine awc_iter (fun (q : Int × List TNumberedPacket) => ⟨[(0, .v (.c (.d false (.l (a0.map eTNumberedPacket))))), (3, .v (.c (.w 0 q.2.length))), (4, tI q.1)], [(0, .row 136 2 (q.2.map eTNumberedPacket) true true)], 1⟩) Hj (weak_of ⟨rfl, rfl, wn rfl (by first | rfl | simp), rfl, rfl, rfl, trivial⟩ ⟨rfl, ⟨rfl, rfl⟩, trivial⟩) ?_
    rintro ⟨v1, v2⟩ o H
    try dsimp only
    refine wk ?_
    refine awc_cond rfl (fun h => ?_) (fun h => ?_)
    · have H := bt h H
      refine wk ?_
      obtain ⟨x7, hx7, H⟩ := ob H
      refine awr_n rfl (xdT (enc := eTNumberedPacket) hx7 (fun _ => rfl) rfl rfl rfl) ?_
      refine wk ?_
      obtain ⟨r8, hr8, H⟩ := ob H
      refine awr_n rfl (ca rfl rfl rfl (ltoNumberedPacket_c hr8) trivial rfl rfl rfl rfl) ?_
      refine wk ?_
      obtain ⟨x9, hx9, H⟩ := ob H
      refine awr_n rfl (xwT hx9 (by first | rfl | simp) rfl rfl rfl) ?_
      refine wk ?_
      refine awr_weak (weak_frz (o := 1) rfl rfl) ?_
      refine awr_weak (weak_cast (k := 20) rfl rfl ⟨by first | rfl | simp, trivial⟩) ?_
      refine awr_step rfl (soT (enc := eTNumberedPacket) (a' := r8) hx9 rfl rfl rfl rfl rfl rfl rfl) ?_
      refine wk ?_
      cases H
      refine iq_n ?_
      exact weak_of ⟨rfl, rfl, wn rfl (by first | rfl | simp), rfl, rfl, rfl, trivial⟩ ⟨rfl, ⟨rfl, rfl⟩, trivial⟩
    · have H := bf h H
      refine wk ?_
      cases H
      refine iq_e (fun hq => ?_)
      cases hq
      refine wk ?_
      exact weak_of ⟨wn rfl (by first | rfl | simp), rfl, trivial⟩ ⟨rfl, ⟨rfl, rfl⟩, trivial⟩
  refine wk ?_
  cases H
  exact fin_ret (.cons (.tmp rfl) .nil) rfl rfl (by first | rfl | simp)
def ltoReceiveWindow (a0 : TReceiveWindow) : Option TReceiveWindow :=
  Option.bind (ltoNumberedPacketS a0.Pending) fun r1 => Option.bind (ltoPayloadS a0.Delivered) fun r2 => some (⟨a0.Next, r1, r2⟩ : TReceiveWindow)
theorem ltoReceiveWindow_c {a0 : TReceiveWindow} {r : TReceiveWindow} (H : ltoReceiveWindow a0 = some r) : Fn Tryz.prog 191 [.agg (eTReceiveWindow a0)] [.agg [.d (.i .i64 r.Next), .own 136 2 (r.Pending.map eTNumberedPacket) r.Pending.length, .own 255 1 (r.Delivered.map eTPayload) r.Delivered.length]] := by
  refine fn_in Tryz.func191 rfl (by kernel_rfl) Tryz.ntmps191 rfl rfl rfl ?_
  refine wk ?_
  obtain ⟨r1, hr1, H⟩ := ob H
  refine awr_n rfl (ca rfl rfl rfl (ltoNumberedPacketS_c hr1) trivial rfl rfl rfl rfl) ?_
  refine wk ?_
  obtain ⟨r2, hr2, H⟩ := ob H
  refine awr_n rfl (ca rfl rfl rfl (ltoPayloadS_c hr2) trivial rfl rfl rfl rfl) ?_
  refine wk ?_
  cases H
  exact fin_ret (.cons (.cell rfl rfl rfl) .nil) rfl rfl (by first | rfl | simp)
def ltoDevice (a0 : TDevice) : Option TDevice :=
  Option.bind (ltoUSIM a0.Card) fun r1 => Option.bind (ltoReceiveWindow a0.Receiver) fun r2 => some (⟨r1, a0.State, a0.Cell, a0.Generation, a0.RootKey, a0.Epoch, a0.PathConfirmed, a0.Wait, r2⟩ : TDevice)
theorem ltoDevice_c {a0 : TDevice} {r : TDevice} (H : ltoDevice a0 = some r) : Fn Tryz.prog 129 [.agg (eTDevice a0)] [.agg [.d (.i .i64 r.Card.ID.Network), .d (.i .i64 r.Card.ID.Number), .d (.i .i64 r.Card.Key), .d (.i .i64 r.Card.LastSeq), .d (.i .i64 r.State), .d (.i .i64 r.Cell), .d (.i .i64 r.Generation), .d (.i .i64 r.RootKey), .d (.i .i64 r.Epoch), .d (.b r.PathConfirmed), .d (.i .i64 r.Wait), .d (.i .i64 r.Receiver.Next), .own 136 2 (r.Receiver.Pending.map eTNumberedPacket) r.Receiver.Pending.length, .own 255 1 (r.Receiver.Delivered.map eTPayload) r.Receiver.Delivered.length]] := by
  refine fn_in Tryz.func129 rfl (by kernel_rfl) Tryz.ntmps129 rfl rfl rfl ?_
  refine wk ?_
  obtain ⟨r1, hr1, H⟩ := ob H
  refine awr_n rfl (ca rfl rfl rfl (ltoUSIM_c hr1) trivial rfl rfl rfl rfl) ?_
  refine wk ?_
  obtain ⟨r2, hr2, H⟩ := ob H
  refine awr_n rfl (ca rfl rfl rfl (ltoReceiveWindow_c hr2) trivial rfl rfl rfl rfl) ?_
  refine wk ?_
  cases H
  exact fin_ret (.cons (.cell rfl rfl rfl) .nil) rfl rfl (by first | rfl | simp)
def ltoDeviceS_L1 (a0 : List TDevice) : (Int × List TDevice) → Option (Step (Int × List TDevice) (List TDevice))
  | (v1, v2) => bif ltB v1 ((a0.length : Nat) : Int) then (Option.bind (ix a0 v1) fun x7 => Option.bind (ltoDevice x7) fun r8 => Option.bind (ix v2 v1) fun x9 => some (.next (WR (v1 + 1), (v2.set (v1).toNat r8)))) else (some (.done v2))
def ltoDeviceS (a0 : List TDevice) : Option (List TDevice) :=
  bif mkOk 144 ((a0.length : Nat) : Int) ((a0.length : Nat) : Int) then (Option.bind (iter (ltoDeviceS_L1 a0) FU (0, (List.replicate (((a0.length : Nat) : Int)).toNat (⟨(⟨(⟨0, 0⟩ : TSubscriberID), 0, 0⟩ : TUSIM), 0, 0, 0, 0, 0, false, 0, (⟨0, [], []⟩ : TReceiveWindow)⟩ : TDevice)))) fun (v6 : List TDevice) => some v6) else none
theorem ltoDeviceS_c {a0 : List TDevice} {r : List TDevice} (H : ltoDeviceS a0 = some r) : Fn Tryz.prog 67 [aL (a0.map eTDevice)] [.c (.own 52 14 (r.map eTDevice) r.length)] := by
  refine fn_in Tryz.func67 rfl (by kernel_rfl) Tryz.ntmps67 rfl rfl rfl ?_
  refine wk ?_
  obtain ⟨h, H⟩ := rq H
  refine awr_n rfl (mkT (enc := eTDevice) (za := (⟨(⟨(⟨0, 0⟩ : TSubscriberID), 0, 0⟩ : TUSIM), 0, 0, 0, 0, 0, false, 0, (⟨0, [], []⟩ : TReceiveWindow)⟩ : TDevice)) h (by rfl) rfl rfl rfl rfl) ?_
  refine wk ?_
  obtain ⟨v6, Hj, H⟩ := ob H
  refine awc_jblk ⟨[(3, .v (.c (.w 0 v6.length)))], [(0, .row 52 14 (v6.map eTDevice) true true)], 1⟩ ?_ ?_
  · refine wk ?_
    refine awc_iter (fun (q : Int × List TDevice) => ⟨[(0, .v (.c (.d false (.l (a0.map eTDevice))))), (3, .v (.c (.w 0 q.2.length))), (4, tI q.1)], [(0, .row 52 14 (q.2.map eTDevice) true true)], 1⟩) Hj (weak_of ⟨rfl, rfl, wn rfl (by first | rfl | simp), rfl, rfl, rfl, trivial⟩ ⟨rfl, ⟨rfl, rfl⟩, trivial⟩) ?_
    rintro ⟨v1, v2⟩ o H
    try dsimp only
    refine wk ?_
    refine awc_cond rfl (fun h => ?_) (fun h => ?_)
    · have H := bt h H
      refine wk ?_
      obtain ⟨x7, hx7, H⟩ := ob H
      refine awr_n rfl (xdT (enc := eTDevice) hx7 (fun _ => rfl) rfl rfl rfl) ?_
      refine wk ?_
      obtain ⟨r8, hr8, H⟩ := ob H
      refine awr_n rfl (ca rfl rfl rfl (ltoDevice_c hr8) trivial rfl rfl rfl rfl) ?_
      refine wk ?_
      obtain ⟨x9, hx9, H⟩ := ob H
      refine awr_n rfl (xwT hx9 (by first | rfl | simp) rfl rfl rfl) ?_
      refine wk ?_
      refine awr_weak (weak_frz (o := 1) rfl rfl) ?_
      refine awr_weak (weak_frz (o := 2) rfl rfl) ?_
      refine awr_weak (weak_cast (k := 20) rfl rfl ⟨by first | rfl | simp, by first | rfl | simp, trivial⟩) ?_
      refine awr_step rfl (soT (enc := eTDevice) (a' := r8) hx9 rfl rfl rfl rfl rfl rfl rfl) ?_
      refine wk ?_
      cases H
      refine iq_n ?_
      exact weak_of ⟨rfl, rfl, wn rfl (by first | rfl | simp), rfl, rfl, rfl, trivial⟩ ⟨rfl, ⟨rfl, rfl⟩, trivial⟩
    · have H := bf h H
      refine wk ?_
      cases H
      refine iq_e (fun hq => ?_)
      cases hq
      refine wk ?_
      exact weak_of ⟨wn rfl (by first | rfl | simp), rfl, trivial⟩ ⟨rfl, ⟨rfl, rfl⟩, trivial⟩
  refine wk ?_
  cases H
  exact fin_ret (.cons (.tmp rfl) .nil) rfl rfl (by first | rfl | simp)
def ltoSubscriberRecord (a0 : TSubscriberRecord) : Option TSubscriberRecord :=
  Option.bind (ltoSubscriberID a0.ID) fun r1 => some (⟨r1, a0.Key, a0.Seq⟩ : TSubscriberRecord)
theorem ltoSubscriberRecord_c {a0 : TSubscriberRecord} {r : TSubscriberRecord} (H : ltoSubscriberRecord a0 = some r) : Fn Tryz.prog 192 [.agg (eTSubscriberRecord a0)] [.agg [.d (.i .i64 r.ID.Network), .d (.i .i64 r.ID.Number), .d (.i .i64 r.Key), .d (.i .i64 r.Seq)]] := by
  refine fn_in Tryz.func192 rfl (by kernel_rfl) Tryz.ntmps192 rfl rfl rfl ?_
  refine wk ?_
  obtain ⟨r1, hr1, H⟩ := ob H
  refine awr_n rfl (ca rfl rfl rfl (ltoSubscriberID_c hr1) trivial rfl rfl rfl rfl) ?_
  refine wk ?_
  cases H
  exact fin_ret (.cons (.cell rfl rfl rfl) .nil) rfl rfl rfl
def ltoSubscription (a0 : TSubscription) : Option TSubscription :=
  Option.bind (ltoIntS a0.RoamingNetworks) fun r1 => some (⟨a0.RateLimit, a0.BestClass, a0.GrantSize, r1⟩ : TSubscription)
theorem ltoSubscription_c {a0 : TSubscription} {r : TSubscription} (H : ltoSubscription a0 = some r) : Fn Tryz.prog 193 [.agg (eTSubscription a0)] [.agg [.d (.i .i64 r.RateLimit), .d (.i .i64 r.BestClass), .d (.i .i64 r.GrantSize), .own 3 1 (r.RoamingNetworks.map eI) r.RoamingNetworks.length]] := by
  refine fn_in Tryz.func193 rfl (by kernel_rfl) Tryz.ntmps193 rfl rfl rfl ?_
  refine wk ?_
  obtain ⟨r1, hr1, H⟩ := ob H
  refine awr_n rfl (ca rfl rfl rfl (ltoIntS_c hr1) trivial rfl rfl rfl rfl) ?_
  refine wk ?_
  cases H
  exact fin_ret (.cons (.cell rfl rfl rfl) .nil) rfl rfl (by first | rfl | simp)
def ltoAuthVector (a0 : TAuthVector) : Option TAuthVector :=
  some a0
theorem ltoAuthVector_c {a0 : TAuthVector} {r : TAuthVector} (H : ltoAuthVector a0 = some r) : Fn Tryz.prog 194 [.agg (eTAuthVector a0)] [.agg [.d (.i .i64 r.Rand), .d (.i .i64 r.Autn), .d (.i .i64 r.MAC), .d (.i .i64 r.Res), .d (.i .i64 r.Key)]] := by
  refine fn_in Tryz.func194 rfl (by kernel_rfl) Tryz.ntmps194 rfl rfl rfl ?_
  refine wk ?_
  cases H
  exact fin_ret (.cons (.cell rfl rfl rfl) .nil) rfl rfl rfl
def ltoPagingState (a0 : TPagingState) : Option TPagingState :=
  some a0
theorem ltoPagingState_c {a0 : TPagingState} {r : TPagingState} (H : ltoPagingState a0 = some r) : Fn Tryz.prog 195 [.agg (eTPagingState a0)] [.agg [.d (.i .i64 r.Area), .d (.i .i64 r.Attempt), .d (.i .i64 r.Wait)]] := by
  refine fn_in Tryz.func195 rfl (by kernel_rfl) Tryz.ntmps195 rfl rfl rfl ?_
  refine wk ?_
  cases H
  exact fin_ret (.cons (.cell rfl rfl rfl) .nil) rfl rfl rfl
def ltoSendWindow (a0 : TSendWindow) : Option TSendWindow :=
  Option.bind (ltoNumberedPacketS a0.Unacked) fun r1 => some (⟨a0.Next, r1⟩ : TSendWindow)
theorem ltoSendWindow_c {a0 : TSendWindow} {r : TSendWindow} (H : ltoSendWindow a0 = some r) : Fn Tryz.prog 197 [.agg (eTSendWindow a0)] [.agg [.d (.i .i64 r.Next), .own 136 2 (r.Unacked.map eTNumberedPacket) r.Unacked.length]] := by
  refine fn_in Tryz.func197 rfl (by kernel_rfl) Tryz.ntmps197 rfl rfl rfl ?_
  refine wk ?_
  obtain ⟨r1, hr1, H⟩ := ob H
  refine awr_n rfl (ca rfl rfl rfl (ltoNumberedPacketS_c hr1) trivial rfl rfl rfl rfl) ?_
  refine wk ?_
  cases H
  exact fin_ret (.cons (.cell rfl rfl rfl) .nil) rfl rfl (by first | rfl | simp)
def ltoQuota (a0 : TQuota) : Option TQuota :=
  some a0
theorem ltoQuota_c {a0 : TQuota} {r : TQuota} (H : ltoQuota a0 = some r) : Fn Tryz.prog 198 [.agg (eTQuota a0)] [.agg [.d (.i .i64 r.SessionID), .d (.i .i64 r.Granted), .d (.i .i64 r.Used)]] := by
  refine fn_in Tryz.func198 rfl (by kernel_rfl) Tryz.ntmps198 rfl rfl rfl ?_
  refine wk ?_
  cases H
  exact fin_ret (.cons (.cell rfl rfl rfl) .nil) rfl rfl rfl
def ltoSession (a0 : TSession) : Option TSession :=
  Option.bind (ltoSubscriberRecord a0.Record) fun r1 => Option.bind (ltoSubscription a0.Plan) fun r2 => Option.bind (ltoAuthVector a0.Pending) fun r3 => Option.bind (ltoPagingState a0.Page) fun r4 => Option.bind (ltoPayloadS a0.Submitted) fun r5 => Option.bind (ltoSendWindow a0.Window) fun r6 => Option.bind (ltoQuota a0.Usage) fun r7 => some (⟨r1, r2, a0.State, r3, a0.PendingSeq, a0.Generation, a0.RootKey, a0.Epoch, a0.Cell, a0.Quiet, r4, r5, r6, a0.Retry, r7⟩ : TSession)
theorem ltoSession_c {a0 : TSession} {r : TSession} (H : ltoSession a0 = some r) : Fn Tryz.prog 130 [.agg (eTSession a0)] [.agg [.d (.i .i64 r.Record.ID.Network), .d (.i .i64 r.Record.ID.Number), .d (.i .i64 r.Record.Key), .d (.i .i64 r.Record.Seq), .d (.i .i64 r.Plan.RateLimit), .d (.i .i64 r.Plan.BestClass), .d (.i .i64 r.Plan.GrantSize), .own 3 1 (r.Plan.RoamingNetworks.map eI) r.Plan.RoamingNetworks.length, .d (.i .i64 r.State), .d (.i .i64 r.Pending.Rand), .d (.i .i64 r.Pending.Autn), .d (.i .i64 r.Pending.MAC), .d (.i .i64 r.Pending.Res), .d (.i .i64 r.Pending.Key), .d (.i .i64 r.PendingSeq), .d (.i .i64 r.Generation), .d (.i .i64 r.RootKey), .d (.i .i64 r.Epoch), .d (.i .i64 r.Cell), .d (.i .i64 r.Quiet), .d (.i .i64 r.Page.Area), .d (.i .i64 r.Page.Attempt), .d (.i .i64 r.Page.Wait), .own 255 1 (r.Submitted.map eTPayload) r.Submitted.length, .d (.i .i64 r.Window.Next), .own 136 2 (r.Window.Unacked.map eTNumberedPacket) r.Window.Unacked.length, .d (.i .i64 r.Retry), .d (.i .i64 r.Usage.SessionID), .d (.i .i64 r.Usage.Granted), .d (.i .i64 r.Usage.Used)]] := by
  refine fn_in Tryz.func130 rfl (by kernel_rfl) Tryz.ntmps130 rfl rfl rfl ?_
  refine wk ?_
  obtain ⟨r1, hr1, H⟩ := ob H
  refine awr_n rfl (ca rfl rfl rfl (ltoSubscriberRecord_c hr1) trivial rfl rfl rfl rfl) ?_
  refine wk ?_
  obtain ⟨r2, hr2, H⟩ := ob H
  refine awr_n rfl (ca rfl rfl rfl (ltoSubscription_c hr2) trivial rfl rfl rfl rfl) ?_
  refine wk ?_
  obtain ⟨r3, hr3, H⟩ := ob H
  refine awr_n rfl (ca rfl rfl rfl (ltoAuthVector_c hr3) trivial rfl rfl rfl rfl) ?_
  refine wk ?_
  obtain ⟨r4, hr4, H⟩ := ob H
  refine awr_n rfl (ca rfl rfl rfl (ltoPagingState_c hr4) trivial rfl rfl rfl rfl) ?_
  refine wk ?_
  obtain ⟨r5, hr5, H⟩ := ob H
  refine awr_n rfl (ca rfl rfl rfl (ltoPayloadS_c hr5) trivial rfl rfl rfl rfl) ?_
  refine wk ?_
  obtain ⟨r6, hr6, H⟩ := ob H
  refine awr_n rfl (ca rfl rfl rfl (ltoSendWindow_c hr6) trivial rfl rfl rfl rfl) ?_
  refine wk ?_
  obtain ⟨r7, hr7, H⟩ := ob H
  refine awr_n rfl (ca rfl rfl rfl (ltoQuota_c hr7) trivial rfl rfl rfl rfl) ?_
  refine wk ?_
  cases H
  exact fin_ret (.cons (.cell rfl rfl rfl) .nil) rfl rfl (by first | rfl | simp)
def ltoSessionS_L1 (a0 : List TSession) : (Int × List TSession) → Option (Step (Int × List TSession) (List TSession))
  | (v1, v2) => bif ltB v1 ((a0.length : Nat) : Int) then (Option.bind (ix a0 v1) fun x7 => Option.bind (ltoSession x7) fun r8 => Option.bind (ix v2 v1) fun x9 => some (.next (WR (v1 + 1), (v2.set (v1).toNat r8)))) else (some (.done v2))
def ltoSessionS (a0 : List TSession) : Option (List TSession) :=
  bif mkOk 288 ((a0.length : Nat) : Int) ((a0.length : Nat) : Int) then (Option.bind (iter (ltoSessionS_L1 a0) FU (0, (List.replicate (((a0.length : Nat) : Int)).toNat (⟨(⟨(⟨0, 0⟩ : TSubscriberID), 0, 0⟩ : TSubscriberRecord), (⟨0, 0, 0, []⟩ : TSubscription), 0, (⟨0, 0, 0, 0, 0⟩ : TAuthVector), 0, 0, 0, 0, 0, 0, (⟨0, 0, 0⟩ : TPagingState), [], (⟨0, []⟩ : TSendWindow), 0, (⟨0, 0, 0⟩ : TQuota)⟩ : TSession)))) fun (v6 : List TSession) => some v6) else none
theorem ltoSessionS_c {a0 : List TSession} {r : List TSession} (H : ltoSessionS a0 = some r) : Fn Tryz.prog 68 [aL (a0.map eTSession)] [.c (.own 65 30 (r.map eTSession) r.length)] := by
  refine fn_in Tryz.func68 rfl (by kernel_rfl) Tryz.ntmps68 rfl rfl rfl ?_
  refine wk ?_
  obtain ⟨h, H⟩ := rq H
  refine awr_n rfl (mkT (enc := eTSession) (za := (⟨(⟨(⟨0, 0⟩ : TSubscriberID), 0, 0⟩ : TSubscriberRecord), (⟨0, 0, 0, []⟩ : TSubscription), 0, (⟨0, 0, 0, 0, 0⟩ : TAuthVector), 0, 0, 0, 0, 0, 0, (⟨0, 0, 0⟩ : TPagingState), [], (⟨0, []⟩ : TSendWindow), 0, (⟨0, 0, 0⟩ : TQuota)⟩ : TSession)) h (by rfl) rfl rfl rfl rfl) ?_
  refine wk ?_
  obtain ⟨v6, Hj, H⟩ := ob H
  refine awc_jblk ⟨[(3, .v (.c (.w 0 v6.length)))], [(0, .row 65 30 (v6.map eTSession) true true)], 1⟩ ?_ ?_
  · refine wk ?_
    refine awc_iter (fun (q : Int × List TSession) => ⟨[(0, .v (.c (.d false (.l (a0.map eTSession))))), (3, .v (.c (.w 0 q.2.length))), (4, tI q.1)], [(0, .row 65 30 (q.2.map eTSession) true true)], 1⟩) Hj (weak_of ⟨rfl, rfl, wn rfl (by first | rfl | simp), rfl, rfl, rfl, trivial⟩ ⟨rfl, ⟨rfl, rfl⟩, trivial⟩) ?_
    rintro ⟨v1, v2⟩ o H
    try dsimp only
    refine wk ?_
    refine awc_cond rfl (fun h => ?_) (fun h => ?_)
    · have H := bt h H
      refine wk ?_
      obtain ⟨x7, hx7, H⟩ := ob H
      refine awr_n rfl (xdT (enc := eTSession) hx7 (fun _ => rfl) rfl rfl rfl) ?_
      refine wk ?_
      obtain ⟨r8, hr8, H⟩ := ob H
      refine awr_n rfl (ca rfl rfl rfl (ltoSession_c hr8) trivial rfl rfl rfl rfl) ?_
      refine wk ?_
      obtain ⟨x9, hx9, H⟩ := ob H
      refine awr_n rfl (xwT hx9 (by first | rfl | simp) rfl rfl rfl) ?_
      refine wk ?_
      refine awr_weak (weak_frz (o := 1) rfl rfl) ?_
      refine awr_weak (weak_frz (o := 2) rfl rfl) ?_
      refine awr_weak (weak_frz (o := 3) rfl rfl) ?_
      refine awr_weak (weak_cast (k := 20) rfl rfl ⟨by first | rfl | simp, by first | rfl | simp, by first | rfl | simp, trivial⟩) ?_
      refine awr_step rfl (soT (enc := eTSession) (a' := r8) hx9 rfl rfl rfl rfl rfl rfl rfl) ?_
      refine wk ?_
      cases H
      refine iq_n ?_
      exact weak_of ⟨rfl, rfl, wn rfl (by first | rfl | simp), rfl, rfl, rfl, trivial⟩ ⟨rfl, ⟨rfl, rfl⟩, trivial⟩
    · have H := bf h H
      refine wk ?_
      cases H
      refine iq_e (fun hq => ?_)
      cases hq
      refine wk ?_
      exact weak_of ⟨wn rfl (by first | rfl | simp), rfl, trivial⟩ ⟨rfl, ⟨rfl, rfl⟩, trivial⟩
  refine wk ?_
  cases H
  exact fin_ret (.cons (.tmp rfl) .nil) rfl rfl (by first | rfl | simp)
def ltoReservation (a0 : TReservation) : Option TReservation :=
  some a0
theorem ltoReservation_c {a0 : TReservation} {r : TReservation} (H : ltoReservation a0 = some r) : Fn Tryz.prog 242 [.agg (eTReservation a0)] [.agg [.d (.i .i64 r.SessionID), .d (.i .i64 r.Amount)]] := by
  refine fn_in Tryz.func242 rfl (by kernel_rfl) Tryz.ntmps242 rfl rfl rfl ?_
  refine wk ?_
  cases H
  exact fin_ret (.cons (.cell rfl rfl rfl) .nil) rfl rfl rfl
def ltoReservationS_L1 (a0 : List TReservation) : (Int × List TReservation) → Option (Step (Int × List TReservation) (List TReservation))
  | (v1, v2) => bif ltB v1 ((a0.length : Nat) : Int) then (Option.bind (ix a0 v1) fun x7 => Option.bind (ltoReservation x7) fun r8 => Option.bind (ix v2 v1) fun x9 => some (.next (WR (v1 + 1), (v2.set (v1).toNat r8)))) else (some (.done v2))
def ltoReservationS (a0 : List TReservation) : Option (List TReservation) :=
  bif mkOk 16 ((a0.length : Nat) : Int) ((a0.length : Nat) : Int) then (Option.bind (iter (ltoReservationS_L1 a0) FU (0, (List.replicate (((a0.length : Nat) : Int)).toNat (⟨0, 0⟩ : TReservation)))) fun (v6 : List TReservation) => some v6) else none
theorem ltoReservationS_c {a0 : List TReservation} {r : List TReservation} (H : ltoReservationS a0 = some r) : Fn Tryz.prog 199 [aL (a0.map eTReservation)] [.c (.own 249 2 (r.map eTReservation) r.length)] := by
  refine fn_in Tryz.func199 rfl (by kernel_rfl) Tryz.ntmps199 rfl rfl rfl ?_
  refine wk ?_
  obtain ⟨h, H⟩ := rq H
  refine awr_n rfl (mkT (enc := eTReservation) (za := (⟨0, 0⟩ : TReservation)) h (by rfl) rfl rfl rfl rfl) ?_
  refine wk ?_
  obtain ⟨v6, Hj, H⟩ := ob H
  refine awc_jblk ⟨[(3, .v (.c (.w 0 v6.length)))], [(0, .row 249 2 (v6.map eTReservation) true true)], 1⟩ ?_ ?_
  · refine wk ?_
    refine awc_iter (fun (q : Int × List TReservation) => ⟨[(0, .v (.c (.d false (.l (a0.map eTReservation))))), (3, .v (.c (.w 0 q.2.length))), (4, tI q.1)], [(0, .row 249 2 (q.2.map eTReservation) true true)], 1⟩) Hj (weak_of ⟨rfl, rfl, wn rfl (by first | rfl | simp), rfl, rfl, rfl, trivial⟩ ⟨rfl, ⟨rfl, rfl⟩, trivial⟩) ?_
    rintro ⟨v1, v2⟩ o H
    try dsimp only
    refine wk ?_
    refine awc_cond rfl (fun h => ?_) (fun h => ?_)
    · have H := bt h H
      refine wk ?_
      obtain ⟨x7, hx7, H⟩ := ob H
      refine awr_n rfl (xdT (enc := eTReservation) hx7 (fun _ => rfl) rfl rfl rfl) ?_
      refine wk ?_
      obtain ⟨r8, hr8, H⟩ := ob H
      refine awr_n rfl (ca rfl rfl rfl (ltoReservation_c hr8) trivial rfl rfl rfl rfl) ?_
      refine wk ?_
      obtain ⟨x9, hx9, H⟩ := ob H
      refine awr_n rfl (xwT hx9 (by first | rfl | simp) rfl rfl rfl) ?_
      refine wk ?_
      refine awr_step rfl (soT (enc := eTReservation) (a' := r8) hx9 rfl rfl rfl rfl rfl rfl rfl) ?_
      refine wk ?_
      cases H
      refine iq_n ?_
      exact weak_of ⟨rfl, rfl, wn rfl (by first | rfl | simp), rfl, rfl, rfl, trivial⟩ ⟨rfl, ⟨rfl, rfl⟩, trivial⟩
    · have H := bf h H
      refine wk ?_
      cases H
      refine iq_e (fun hq => ?_)
      cases hq
      refine wk ?_
      exact weak_of ⟨wn rfl (by first | rfl | simp), rfl, trivial⟩ ⟨rfl, ⟨rfl, rfl⟩, trivial⟩
  refine wk ?_
  cases H
  exact fin_ret (.cons (.tmp rfl) .nil) rfl rfl (by first | rfl | simp)
def ltoAccount (a0 : TAccount) : Option TAccount :=
  Option.bind (ltoReservationS a0.Reservations) fun r1 => some (⟨a0.Total, a0.Available, a0.Spent, r1⟩ : TAccount)
theorem ltoAccount_c {a0 : TAccount} {r : TAccount} (H : ltoAccount a0 = some r) : Fn Tryz.prog 131 [.agg (eTAccount a0)] [.agg [.d (.i .i64 r.Total), .d (.i .i64 r.Available), .d (.i .i64 r.Spent), .own 249 2 (r.Reservations.map eTReservation) r.Reservations.length]] := by
  refine fn_in Tryz.func131 rfl (by kernel_rfl) Tryz.ntmps131 rfl rfl rfl ?_
  refine wk ?_
  obtain ⟨r1, hr1, H⟩ := ob H
  refine awr_n rfl (ca rfl rfl rfl (ltoReservationS_c hr1) trivial rfl rfl rfl rfl) ?_
  refine wk ?_
  cases H
  exact fin_ret (.cons (.cell rfl rfl rfl) .nil) rfl rfl (by first | rfl | simp)
def ltoAccountS_L1 (a0 : List TAccount) : (Int × List TAccount) → Option (Step (Int × List TAccount) (List TAccount))
  | (v1, v2) => bif ltB v1 ((a0.length : Nat) : Int) then (Option.bind (ix a0 v1) fun x7 => Option.bind (ltoAccount x7) fun r8 => Option.bind (ix v2 v1) fun x9 => some (.next (WR (v1 + 1), (v2.set (v1).toNat r8)))) else (some (.done v2))
def ltoAccountS (a0 : List TAccount) : Option (List TAccount) :=
  bif mkOk 48 ((a0.length : Nat) : Int) ((a0.length : Nat) : Int) then (Option.bind (iter (ltoAccountS_L1 a0) FU (0, (List.replicate (((a0.length : Nat) : Int)).toNat (⟨0, 0, 0, []⟩ : TAccount)))) fun (v6 : List TAccount) => some v6) else none
theorem ltoAccountS_c {a0 : List TAccount} {r : List TAccount} (H : ltoAccountS a0 = some r) : Fn Tryz.prog 69 [aL (a0.map eTAccount)] [.c (.own 68 4 (r.map eTAccount) r.length)] := by
  refine fn_in Tryz.func69 rfl (by kernel_rfl) Tryz.ntmps69 rfl rfl rfl ?_
  refine wk ?_
  obtain ⟨h, H⟩ := rq H
  refine awr_n rfl (mkT (enc := eTAccount) (za := (⟨0, 0, 0, []⟩ : TAccount)) h (by rfl) rfl rfl rfl rfl) ?_
  refine wk ?_
  obtain ⟨v6, Hj, H⟩ := ob H
  refine awc_jblk ⟨[(3, .v (.c (.w 0 v6.length)))], [(0, .row 68 4 (v6.map eTAccount) true true)], 1⟩ ?_ ?_
  · refine wk ?_
    refine awc_iter (fun (q : Int × List TAccount) => ⟨[(0, .v (.c (.d false (.l (a0.map eTAccount))))), (3, .v (.c (.w 0 q.2.length))), (4, tI q.1)], [(0, .row 68 4 (q.2.map eTAccount) true true)], 1⟩) Hj (weak_of ⟨rfl, rfl, wn rfl (by first | rfl | simp), rfl, rfl, rfl, trivial⟩ ⟨rfl, ⟨rfl, rfl⟩, trivial⟩) ?_
    rintro ⟨v1, v2⟩ o H
    try dsimp only
    refine wk ?_
    refine awc_cond rfl (fun h => ?_) (fun h => ?_)
    · have H := bt h H
      refine wk ?_
      obtain ⟨x7, hx7, H⟩ := ob H
      refine awr_n rfl (xdT (enc := eTAccount) hx7 (fun _ => rfl) rfl rfl rfl) ?_
      refine wk ?_
      obtain ⟨r8, hr8, H⟩ := ob H
      refine awr_n rfl (ca rfl rfl rfl (ltoAccount_c hr8) trivial rfl rfl rfl rfl) ?_
      refine wk ?_
      obtain ⟨x9, hx9, H⟩ := ob H
      refine awr_n rfl (xwT hx9 (by first | rfl | simp) rfl rfl rfl) ?_
      refine wk ?_
      refine awr_weak (weak_frz (o := 1) rfl rfl) ?_
      refine awr_weak (weak_cast (k := 20) rfl rfl ⟨by first | rfl | simp, trivial⟩) ?_
      refine awr_step rfl (soT (enc := eTAccount) (a' := r8) hx9 rfl rfl rfl rfl rfl rfl rfl) ?_
      refine wk ?_
      cases H
      refine iq_n ?_
      exact weak_of ⟨rfl, rfl, wn rfl (by first | rfl | simp), rfl, rfl, rfl, trivial⟩ ⟨rfl, ⟨rfl, rfl⟩, trivial⟩
    · have H := bf h H
      refine wk ?_
      cases H
      refine iq_e (fun hq => ?_)
      cases hq
      refine wk ?_
      exact weak_of ⟨wn rfl (by first | rfl | simp), rfl, trivial⟩ ⟨rfl, ⟨rfl, rfl⟩, trivial⟩
  refine wk ?_
  cases H
  exact fin_ret (.cons (.tmp rfl) .nil) rfl rfl (by first | rfl | simp)
def ltoSignal (a0 : TSignal) : Option TSignal :=
  Option.bind (ltoAuthVector a0.Vector) fun r1 => some (⟨a0.Kind, a0.Cell, a0.Generation, a0.Epoch, a0.Number, r1, a0.MAC⟩ : TSignal)
theorem ltoSignal_c {a0 : TSignal} {r : TSignal} (H : ltoSignal a0 = some r) : Fn Tryz.prog 200 [.agg (eTSignal a0)] [.agg [.d (.i .i64 r.Kind), .d (.i .i64 r.Cell), .d (.i .i64 r.Generation), .d (.i .i64 r.Epoch), .d (.i .i64 r.Number), .d (.i .i64 r.Vector.Rand), .d (.i .i64 r.Vector.Autn), .d (.i .i64 r.Vector.MAC), .d (.i .i64 r.Vector.Res), .d (.i .i64 r.Vector.Key), .d (.i .i64 r.MAC)]] := by
  refine fn_in Tryz.func200 rfl (by kernel_rfl) Tryz.ntmps200 rfl rfl rfl ?_
  refine wk ?_
  obtain ⟨r1, hr1, H⟩ := ob H
  refine awr_n rfl (ca rfl rfl rfl (ltoAuthVector_c hr1) trivial rfl rfl rfl rfl) ?_
  refine wk ?_
  cases H
  exact fin_ret (.cons (.cell rfl rfl rfl) .nil) rfl rfl rfl
def ltoSecuredMessage (a0 : TSecuredMessage) : Option TSecuredMessage :=
  Option.bind (ltoByteS a0.Data) fun r1 => some (⟨a0.Direction, a0.Count, r1, a0.MAC⟩ : TSecuredMessage)
theorem ltoSecuredMessage_c {a0 : TSecuredMessage} {r : TSecuredMessage} (H : ltoSecuredMessage a0 = some r) : Fn Tryz.prog 243 [.agg (eTSecuredMessage a0)] [.agg [.d (.i .i64 r.Direction), .d (.i .i64 r.Count), .own 5 1 (r.Data.map eU8) r.Data.length, .d (.i .i64 r.MAC)]] := by
  refine fn_in Tryz.func243 rfl (by kernel_rfl) Tryz.ntmps243 rfl rfl rfl ?_
  refine wk ?_
  obtain ⟨r1, hr1, H⟩ := ob H
  refine awr_n rfl (ca rfl rfl rfl (ltoByteS_c hr1) trivial rfl rfl rfl rfl) ?_
  refine wk ?_
  cases H
  exact fin_ret (.cons (.cell rfl rfl rfl) .nil) rfl rfl (by first | rfl | simp)
def ltoRadioPacket (a0 : TRadioPacket) : Option TRadioPacket :=
  Option.bind (ltoSecuredMessage a0.Message) fun r1 => some (⟨a0.Generation, a0.Epoch, r1⟩ : TRadioPacket)
theorem ltoRadioPacket_c {a0 : TRadioPacket} {r : TRadioPacket} (H : ltoRadioPacket a0 = some r) : Fn Tryz.prog 201 [.agg (eTRadioPacket a0)] [.agg [.d (.i .i64 r.Generation), .d (.i .i64 r.Epoch), .d (.i .i64 r.Message.Direction), .d (.i .i64 r.Message.Count), .own 5 1 (r.Message.Data.map eU8) r.Message.Data.length, .d (.i .i64 r.Message.MAC)]] := by
  refine fn_in Tryz.func201 rfl (by kernel_rfl) Tryz.ntmps201 rfl rfl rfl ?_
  refine wk ?_
  obtain ⟨r1, hr1, H⟩ := ob H
  refine awr_n rfl (ca rfl rfl rfl (ltoSecuredMessage_c hr1) trivial rfl rfl rfl rfl) ?_
  refine wk ?_
  cases H
  exact fin_ret (.cons (.cell rfl rfl rfl) .nil) rfl rfl (by first | rfl | simp)
def ltoFlight (a0 : TFlight) : Option TFlight :=
  Option.bind (ltoSignal a0.Signal) fun r1 => Option.bind (ltoRadioPacket a0.Radio) fun r2 => some (⟨a0.Device, a0.Uplink, a0.IsRadio, a0.Cell, r1, r2⟩ : TFlight)
theorem ltoFlight_c {a0 : TFlight} {r : TFlight} (H : ltoFlight a0 = some r) : Fn Tryz.prog 132 [.agg (eTFlight a0)] [.agg [.d (.i .i64 r.Device), .d (.b r.Uplink), .d (.b r.IsRadio), .d (.i .i64 r.Cell), .d (.i .i64 r.Signal.Kind), .d (.i .i64 r.Signal.Cell), .d (.i .i64 r.Signal.Generation), .d (.i .i64 r.Signal.Epoch), .d (.i .i64 r.Signal.Number), .d (.i .i64 r.Signal.Vector.Rand), .d (.i .i64 r.Signal.Vector.Autn), .d (.i .i64 r.Signal.Vector.MAC), .d (.i .i64 r.Signal.Vector.Res), .d (.i .i64 r.Signal.Vector.Key), .d (.i .i64 r.Signal.MAC), .d (.i .i64 r.Radio.Generation), .d (.i .i64 r.Radio.Epoch), .d (.i .i64 r.Radio.Message.Direction), .d (.i .i64 r.Radio.Message.Count), .own 5 1 (r.Radio.Message.Data.map eU8) r.Radio.Message.Data.length, .d (.i .i64 r.Radio.Message.MAC)]] := by
  refine fn_in Tryz.func132 rfl (by kernel_rfl) Tryz.ntmps132 rfl rfl rfl ?_
  refine wk ?_
  obtain ⟨r1, hr1, H⟩ := ob H
  refine awr_n rfl (ca rfl rfl rfl (ltoSignal_c hr1) trivial rfl rfl rfl rfl) ?_
  refine wk ?_
  obtain ⟨r2, hr2, H⟩ := ob H
  refine awr_n rfl (ca rfl rfl rfl (ltoRadioPacket_c hr2) trivial rfl rfl rfl rfl) ?_
  refine wk ?_
  cases H
  exact fin_ret (.cons (.cell rfl rfl rfl) .nil) rfl rfl (by first | rfl | simp)
def ltoFlightS_L1 (a0 : List TFlight) : (Int × List TFlight) → Option (Step (Int × List TFlight) (List TFlight))
  | (v1, v2) => bif ltB v1 ((a0.length : Nat) : Int) then (Option.bind (ix a0 v1) fun x7 => Option.bind (ltoFlight x7) fun r8 => Option.bind (ix v2 v1) fun x9 => some (.next (WR (v1 + 1), (v2.set (v1).toNat r8)))) else (some (.done v2))
def ltoFlightS (a0 : List TFlight) : Option (List TFlight) :=
  bif mkOk 176 ((a0.length : Nat) : Int) ((a0.length : Nat) : Int) then (Option.bind (iter (ltoFlightS_L1 a0) FU (0, (List.replicate (((a0.length : Nat) : Int)).toNat (⟨0, false, false, 0, (⟨0, 0, 0, 0, 0, (⟨0, 0, 0, 0, 0⟩ : TAuthVector), 0⟩ : TSignal), (⟨0, 0, (⟨0, 0, [], 0⟩ : TSecuredMessage)⟩ : TRadioPacket)⟩ : TFlight)))) fun (v6 : List TFlight) => some v6) else none
theorem ltoFlightS_c {a0 : List TFlight} {r : List TFlight} (H : ltoFlightS a0 = some r) : Fn Tryz.prog 70 [aL (a0.map eTFlight)] [.c (.own 120 21 (r.map eTFlight) r.length)] := by
  refine fn_in Tryz.func70 rfl (by kernel_rfl) Tryz.ntmps70 rfl rfl rfl ?_
  refine wk ?_
  obtain ⟨h, H⟩ := rq H
  refine awr_n rfl (mkT (enc := eTFlight) (za := (⟨0, false, false, 0, (⟨0, 0, 0, 0, 0, (⟨0, 0, 0, 0, 0⟩ : TAuthVector), 0⟩ : TSignal), (⟨0, 0, (⟨0, 0, [], 0⟩ : TSecuredMessage)⟩ : TRadioPacket)⟩ : TFlight)) h (by rfl) rfl rfl rfl rfl) ?_
  refine wk ?_
  obtain ⟨v6, Hj, H⟩ := ob H
  refine awc_jblk ⟨[(3, .v (.c (.w 0 v6.length)))], [(0, .row 120 21 (v6.map eTFlight) true true)], 1⟩ ?_ ?_
  · refine wk ?_
    refine awc_iter (fun (q : Int × List TFlight) => ⟨[(0, .v (.c (.d false (.l (a0.map eTFlight))))), (3, .v (.c (.w 0 q.2.length))), (4, tI q.1)], [(0, .row 120 21 (q.2.map eTFlight) true true)], 1⟩) Hj (weak_of ⟨rfl, rfl, wn rfl (by first | rfl | simp), rfl, rfl, rfl, trivial⟩ ⟨rfl, ⟨rfl, rfl⟩, trivial⟩) ?_
    rintro ⟨v1, v2⟩ o H
    try dsimp only
    refine wk ?_
    refine awc_cond rfl (fun h => ?_) (fun h => ?_)
    · have H := bt h H
      refine wk ?_
      obtain ⟨x7, hx7, H⟩ := ob H
      refine awr_n rfl (xdT (enc := eTFlight) hx7 (fun _ => rfl) rfl rfl rfl) ?_
      refine wk ?_
      obtain ⟨r8, hr8, H⟩ := ob H
      refine awr_n rfl (ca rfl rfl rfl (ltoFlight_c hr8) trivial rfl rfl rfl rfl) ?_
      refine wk ?_
      obtain ⟨x9, hx9, H⟩ := ob H
      refine awr_n rfl (xwT hx9 (by first | rfl | simp) rfl rfl rfl) ?_
      refine wk ?_
      refine awr_weak (weak_frz (o := 1) rfl rfl) ?_
      refine awr_weak (weak_cast (k := 20) rfl rfl ⟨by first | rfl | simp, trivial⟩) ?_
      refine awr_step rfl (soT (enc := eTFlight) (a' := r8) hx9 rfl rfl rfl rfl rfl rfl rfl) ?_
      refine wk ?_
      cases H
      refine iq_n ?_
      exact weak_of ⟨rfl, rfl, wn rfl (by first | rfl | simp), rfl, rfl, rfl, trivial⟩ ⟨rfl, ⟨rfl, rfl⟩, trivial⟩
    · have H := bf h H
      refine wk ?_
      cases H
      refine iq_e (fun hq => ?_)
      cases hq
      refine wk ?_
      exact weak_of ⟨wn rfl (by first | rfl | simp), rfl, trivial⟩ ⟨rfl, ⟨rfl, rfl⟩, trivial⟩
  refine wk ?_
  cases H
  exact fin_ret (.cons (.tmp rfl) .nil) rfl rfl (by first | rfl | simp)
def ltoServerPool (a0 : TServerPool) : Option TServerPool :=
  some a0
theorem ltoServerPool_c {a0 : TServerPool} {r : TServerPool} (H : ltoServerPool a0 = some r) : Fn Tryz.prog 71 [.agg (eTServerPool a0)] [.agg [.d (.i .i64 r.Size), .d (.i .i64 r.UpMask)]] := by
  refine fn_in Tryz.func71 rfl (by kernel_rfl) Tryz.ntmps71 rfl rfl rfl ?_
  refine wk ?_
  cases H
  exact fin_ret (.cons (.cell rfl rfl rfl) .nil) rfl rfl rfl
def ltoNetwork (a0 : TNetwork) : Option TNetwork :=
  Option.bind (ltoCellMap a0.Map) fun r1 => Option.bind (ltoDeviceS a0.Devices) fun r2 => Option.bind (ltoSessionS a0.Sessions) fun r3 => Option.bind (ltoAccountS a0.Accounts) fun r4 => Option.bind (ltoFlightS a0.Flights) fun r5 => Option.bind (ltoServerPool a0.Core) fun r6 => some (⟨r1, r2, r3, r4, r5, a0.DownCells, r6, a0.Now, a0.Lost⟩ : TNetwork)
theorem ltoNetwork_c {a0 : TNetwork} {r : TNetwork} (H : ltoNetwork a0 = some r) : Fn Tryz.prog 16 [.agg (eTNetwork a0)] [.agg [.own 166 2 (r.Map.Cells.map eTCell) r.Map.Cells.length, .own 52 14 (r.Devices.map eTDevice) r.Devices.length, .own 65 30 (r.Sessions.map eTSession) r.Sessions.length, .own 68 4 (r.Accounts.map eTAccount) r.Accounts.length, .own 120 21 (r.Flights.map eTFlight) r.Flights.length, .d (.i .i64 r.DownCells), .d (.i .i64 r.Core.Size), .d (.i .i64 r.Core.UpMask), .d (.i .i64 r.Now), .d (.i .i64 r.Lost)]] := by
  refine fn_in Tryz.func16 rfl (by kernel_rfl) Tryz.ntmps16 rfl rfl rfl ?_
  refine wk ?_
  obtain ⟨r1, hr1, H⟩ := ob H
  refine awr_n rfl (ca rfl rfl rfl (ltoCellMap_c hr1) trivial rfl rfl rfl rfl) ?_
  refine wk ?_
  obtain ⟨r2, hr2, H⟩ := ob H
  refine awr_n rfl (ca rfl rfl rfl (ltoDeviceS_c hr2) trivial rfl rfl rfl rfl) ?_
  refine wk ?_
  obtain ⟨r3, hr3, H⟩ := ob H
  refine awr_n rfl (ca rfl rfl rfl (ltoSessionS_c hr3) trivial rfl rfl rfl rfl) ?_
  refine wk ?_
  obtain ⟨r4, hr4, H⟩ := ob H
  refine awr_n rfl (ca rfl rfl rfl (ltoAccountS_c hr4) trivial rfl rfl rfl rfl) ?_
  refine wk ?_
  obtain ⟨r5, hr5, H⟩ := ob H
  refine awr_n rfl (ca rfl rfl rfl (ltoFlightS_c hr5) trivial rfl rfl rfl rfl) ?_
  refine wk ?_
  obtain ⟨r6, hr6, H⟩ := ob H
  refine awr_n rfl (ca rfl rfl rfl (ltoServerPool_c hr6) trivial rfl rfl rfl rfl) ?_
  refine wk ?_
  cases H
  exact fin_ret (.cons (.cell rfl rfl rfl) .nil) rfl rfl (by first | rfl | simp)
def ltoKeyPath (a0 : TKeyPath) : Option TKeyPath :=
  Option.bind (ltoIntS a0.Steps) fun r1 => some (⟨r1⟩ : TKeyPath)
theorem ltoKeyPath_c {a0 : TKeyPath} {r : TKeyPath} (H : ltoKeyPath a0 = some r) : Fn Tryz.prog 133 [.agg (eTKeyPath a0)] [.agg [.own 3 1 (r.Steps.map eI) r.Steps.length]] := by
  refine fn_in Tryz.func133 rfl (by kernel_rfl) Tryz.ntmps133 rfl rfl rfl ?_
  refine wk ?_
  obtain ⟨r1, hr1, H⟩ := ob H
  refine awr_n rfl (ca rfl rfl rfl (ltoIntS_c hr1) trivial rfl rfl rfl rfl) ?_
  refine wk ?_
  cases H
  exact fin_ret (.cons (.cell rfl rfl rfl) .nil) rfl rfl (by first | rfl | simp)
def ltoLeakedKey (a0 : TLeakedKey) : Option TLeakedKey :=
  Option.bind (ltoKeyPath a0.Path) fun r1 => some (⟨a0.Generation, r1⟩ : TLeakedKey)
theorem ltoLeakedKey_c {a0 : TLeakedKey} {r : TLeakedKey} (H : ltoLeakedKey a0 = some r) : Fn Tryz.prog 72 [.agg (eTLeakedKey a0)] [.agg [.d (.i .i64 r.Generation), .own 3 1 (r.Path.Steps.map eI) r.Path.Steps.length]] := by
  refine fn_in Tryz.func72 rfl (by kernel_rfl) Tryz.ntmps72 rfl rfl rfl ?_
  refine wk ?_
  obtain ⟨r1, hr1, H⟩ := ob H
  refine awr_n rfl (ca rfl rfl rfl (ltoKeyPath_c hr1) trivial rfl rfl rfl rfl) ?_
  refine wk ?_
  cases H
  exact fin_ret (.cons (.cell rfl rfl rfl) .nil) rfl rfl (by first | rfl | simp)
def ltoLeakedKeyS_L1 (a0 : List TLeakedKey) : (Int × List TLeakedKey) → Option (Step (Int × List TLeakedKey) (List TLeakedKey))
  | (v1, v2) => bif ltB v1 ((a0.length : Nat) : Int) then (Option.bind (ix a0 v1) fun x7 => Option.bind (ltoLeakedKey x7) fun r8 => Option.bind (ix v2 v1) fun x9 => some (.next (WR (v1 + 1), (v2.set (v1).toNat r8)))) else (some (.done v2))
def ltoLeakedKeyS (a0 : List TLeakedKey) : Option (List TLeakedKey) :=
  bif mkOk 32 ((a0.length : Nat) : Int) ((a0.length : Nat) : Int) then (Option.bind (iter (ltoLeakedKeyS_L1 a0) FU (0, (List.replicate (((a0.length : Nat) : Int)).toNat (⟨0, (⟨[]⟩ : TKeyPath)⟩ : TLeakedKey)))) fun (v6 : List TLeakedKey) => some v6) else none
theorem ltoLeakedKeyS_c {a0 : List TLeakedKey} {r : List TLeakedKey} (H : ltoLeakedKeyS a0 = some r) : Fn Tryz.prog 17 [aL (a0.map eTLeakedKey)] [.c (.own 147 2 (r.map eTLeakedKey) r.length)] := by
  refine fn_in Tryz.func17 rfl (by kernel_rfl) Tryz.ntmps17 rfl rfl rfl ?_
  refine wk ?_
  obtain ⟨h, H⟩ := rq H
  refine awr_n rfl (mkT (enc := eTLeakedKey) (za := (⟨0, (⟨[]⟩ : TKeyPath)⟩ : TLeakedKey)) h (by rfl) rfl rfl rfl rfl) ?_
  refine wk ?_
  obtain ⟨v6, Hj, H⟩ := ob H
  refine awc_jblk ⟨[(3, .v (.c (.w 0 v6.length)))], [(0, .row 147 2 (v6.map eTLeakedKey) true true)], 1⟩ ?_ ?_
  · refine wk ?_
    refine awc_iter (fun (q : Int × List TLeakedKey) => ⟨[(0, .v (.c (.d false (.l (a0.map eTLeakedKey))))), (3, .v (.c (.w 0 q.2.length))), (4, tI q.1)], [(0, .row 147 2 (q.2.map eTLeakedKey) true true)], 1⟩) Hj (weak_of ⟨rfl, rfl, wn rfl (by first | rfl | simp), rfl, rfl, rfl, trivial⟩ ⟨rfl, ⟨rfl, rfl⟩, trivial⟩) ?_
    rintro ⟨v1, v2⟩ o H
    try dsimp only
    refine wk ?_
    refine awc_cond rfl (fun h => ?_) (fun h => ?_)
    · have H := bt h H
      refine wk ?_
      obtain ⟨x7, hx7, H⟩ := ob H
      refine awr_n rfl (xdT (enc := eTLeakedKey) hx7 (fun _ => rfl) rfl rfl rfl) ?_
      refine wk ?_
      obtain ⟨r8, hr8, H⟩ := ob H
      refine awr_n rfl (ca rfl rfl rfl (ltoLeakedKey_c hr8) trivial rfl rfl rfl rfl) ?_
      refine wk ?_
      obtain ⟨x9, hx9, H⟩ := ob H
      refine awr_n rfl (xwT hx9 (by first | rfl | simp) rfl rfl rfl) ?_
      refine wk ?_
      refine awr_weak (weak_frz (o := 1) rfl rfl) ?_
      refine awr_weak (weak_cast (k := 20) rfl rfl ⟨by first | rfl | simp, trivial⟩) ?_
      refine awr_step rfl (soT (enc := eTLeakedKey) (a' := r8) hx9 rfl rfl rfl rfl rfl rfl rfl) ?_
      refine wk ?_
      cases H
      refine iq_n ?_
      exact weak_of ⟨rfl, rfl, wn rfl (by first | rfl | simp), rfl, rfl, rfl, trivial⟩ ⟨rfl, ⟨rfl, rfl⟩, trivial⟩
    · have H := bf h H
      refine wk ?_
      cases H
      refine iq_e (fun hq => ?_)
      cases hq
      refine wk ?_
      exact weak_of ⟨wn rfl (by first | rfl | simp), rfl, trivial⟩ ⟨rfl, ⟨rfl, rfl⟩, trivial⟩
  refine wk ?_
  cases H
  exact fin_ret (.cons (.tmp rfl) .nil) rfl rfl (by first | rfl | simp)
def leqByteS_L1 (a0 : List Int) (a1 : List Int) : Int → Option (Step (Int) (Bool))
  | v1 => bif ltB v1 ((a0.length : Nat) : Int) then (Option.bind (ix a0 v1) fun x2 => Option.bind (ix a1 v1) fun x3 => bif !eqB x2 x3 then (dn (some false)) else (some (.next (WR (v1 + 1))))) else (dn (some true))
def leqByteS (a0 : List Int) (a1 : List Int) : Option Bool :=
  bif !eqB ((a0.length : Nat) : Int) ((a1.length : Nat) : Int) then (some false) else (iter (leqByteS_L1 a0 a1) FU 0)
theorem leqByteS_c {a0 : List Int} {a1 : List Int} {r : Bool} (H : leqByteS a0 a1 = some r) : Fn Tryz.prog 19 [aL (a0.map eU8), aL (a1.map eU8)] [.c (.d (.b r))] := by
  refine fn_in Tryz.func19 rfl (by kernel_rfl) Tryz.ntmps19 rfl rfl rfl ?_
  refine wkd ?_
  refine awc_cond rfl (fun h => ?_) (fun h => ?_)
  · have H := bt h H
    refine wkd ?_
    cases H
    exact fin_ret (.cons (.tmp rfl) .nil) rfl rfl rfl
  · have H := bf h H
    refine wkd ?_
    refine awc_iter (fun (q : Int) => ⟨[(0, .v (.c (.d false (.l (a0.map eU8))))), (1, .v (.c (.d false (.l (a1.map eU8))))), (5, tI q)], [], 0⟩) H (weak_of ⟨rfl, rfl, rfl, rfl, rfl, rfl, trivial⟩ trivial) ?_
    rintro v1 o H
    try dsimp only
    refine wkd ?_
    refine awc_cond rfl (fun h => ?_) (fun h => ?_)
    · have H := bt h H
      refine wkd ?_
      obtain ⟨x2, hx2, H⟩ := ob H
      refine dr_n rfl (xdT (enc := eU8) hx2 (fun _ => rfl) rfl rfl rfl) ?_
      refine wkd ?_
      obtain ⟨x3, hx3, H⟩ := ob H
      refine dr_n rfl (xdT (enc := eU8) hx3 (fun _ => rfl) rfl rfl rfl) ?_
      refine wkd ?_
      refine awc_cond rfl (fun h => ?_) (fun h => ?_)
      · have H := bt h H
        refine wkd ?_
        obtain ⟨r0, Hd, rfl⟩ := dnE H
        refine iq_r (fun hq => ?_)
        have H := Hd.trans (congrArg some hq)
        refine wkd ?_
        cases H
        exact fin_ret (.cons (.tmp rfl) .nil) rfl rfl rfl
      · have H := bf h H
        refine wkd ?_
        cases H
        refine iq_n ?_
        exact weak_of ⟨rfl, rfl, rfl, rfl, rfl, rfl, trivial⟩ trivial
    · have H := bf h H
      refine wkd ?_
      obtain ⟨r0, Hd, rfl⟩ := dnE H
      refine iq_e (fun hq => ?_)
      have H := Hd.trans (congrArg some hq)
      refine wkd ?_
      cases H
      exact fin_ret (.cons (.tmp rfl) .nil) rfl rfl rfl
def leqIntS_L1 (a0 : List Int) (a1 : List Int) : Int → Option (Step (Int) (Bool))
  | v1 => bif ltB v1 ((a0.length : Nat) : Int) then (Option.bind (ix a0 v1) fun x2 => Option.bind (ix a1 v1) fun x3 => bif !eqB x2 x3 then (dn (some false)) else (some (.next (WR (v1 + 1))))) else (dn (some true))
def leqIntS (a0 : List Int) (a1 : List Int) : Option Bool :=
  bif !eqB ((a0.length : Nat) : Int) ((a1.length : Nat) : Int) then (some false) else (iter (leqIntS_L1 a0 a1) FU 0)
theorem leqIntS_c {a0 : List Int} {a1 : List Int} {r : Bool} (H : leqIntS a0 a1 = some r) : Fn Tryz.prog 222 [aL (a0.map eI), aL (a1.map eI)] [.c (.d (.b r))] := by
  refine fn_in Tryz.func222 rfl (by kernel_rfl) Tryz.ntmps222 rfl rfl rfl ?_
  refine wkd ?_
  refine awc_cond rfl (fun h => ?_) (fun h => ?_)
  · have H := bt h H
    refine wkd ?_
    cases H
    exact fin_ret (.cons (.tmp rfl) .nil) rfl rfl rfl
  · have H := bf h H
    refine wkd ?_
    refine awc_iter (fun (q : Int) => ⟨[(0, .v (.c (.d false (.l (a0.map eI))))), (1, .v (.c (.d false (.l (a1.map eI))))), (5, tI q)], [], 0⟩) H (weak_of ⟨rfl, rfl, rfl, rfl, rfl, rfl, trivial⟩ trivial) ?_
    rintro v1 o H
    try dsimp only
    refine wkd ?_
    refine awc_cond rfl (fun h => ?_) (fun h => ?_)
    · have H := bt h H
      refine wkd ?_
      obtain ⟨x2, hx2, H⟩ := ob H
      refine dr_n rfl (xdT (enc := eI) hx2 (fun _ => rfl) rfl rfl rfl) ?_
      refine wkd ?_
      obtain ⟨x3, hx3, H⟩ := ob H
      refine dr_n rfl (xdT (enc := eI) hx3 (fun _ => rfl) rfl rfl rfl) ?_
      refine wkd ?_
      refine awc_cond rfl (fun h => ?_) (fun h => ?_)
      · have H := bt h H
        refine wkd ?_
        obtain ⟨r0, Hd, rfl⟩ := dnE H
        refine iq_r (fun hq => ?_)
        have H := Hd.trans (congrArg some hq)
        refine wkd ?_
        cases H
        exact fin_ret (.cons (.tmp rfl) .nil) rfl rfl rfl
      · have H := bf h H
        refine wkd ?_
        cases H
        refine iq_n ?_
        exact weak_of ⟨rfl, rfl, rfl, rfl, rfl, rfl, trivial⟩ trivial
    · have H := bf h H
      refine wkd ?_
      obtain ⟨r0, Hd, rfl⟩ := dnE H
      refine iq_e (fun hq => ?_)
      have H := Hd.trans (congrArg some hq)
      refine wkd ?_
      cases H
      exact fin_ret (.cons (.tmp rfl) .nil) rfl rfl rfl
def leqCell (a0 : TCell) (a1 : TCell) : Option Bool :=
  bif !eqB a0.Area a1.Area then (some false) else (Option.bind (leqIntS a0.Neighbors a1.Neighbors) fun r1 => bif !r1 then (some false) else (some true))
theorem leqCell_c {a0 : TCell} {a1 : TCell} {r : Bool} (H : leqCell a0 a1 = some r) : Fn Tryz.prog 209 [.agg (eTCell a0), .agg (eTCell a1)] [.c (.d (.b r))] := by
  refine fn_in Tryz.func209 rfl (by kernel_rfl) Tryz.ntmps209 rfl rfl rfl ?_
  refine wk ?_
  refine awc_cond rfl (fun h => ?_) (fun h => ?_)
  · have H := bt h H
    refine wk ?_
    cases H
    exact fin_ret (.cons (.tmp rfl) .nil) rfl rfl rfl
  · have H := bf h H
    refine wk ?_
    obtain ⟨r1, hr1, H⟩ := ob H
    refine awr_n rfl (ca rfl rfl rfl (leqIntS_c hr1) trivial rfl rfl rfl rfl) ?_
    refine wk ?_
    refine awc_cond rfl (fun h => ?_) (fun h => ?_)
    · have H := bt h H
      refine wk ?_
      cases H
      exact fin_ret (.cons (.tmp rfl) .nil) rfl rfl rfl
    · have H := bf h H
      refine wk ?_
      cases H
      exact fin_ret (.cons (.tmp rfl) .nil) rfl rfl rfl
def leqCellS_L1 (a0 : List TCell) (a1 : List TCell) : Int → Option (Step (Int) (Bool))
  | v1 => bif ltB v1 ((a0.length : Nat) : Int) then (Option.bind (ix a0 v1) fun x2 => Option.bind (ix a1 v1) fun x3 => Option.bind (leqCell x2 x3) fun r4 => bif !r4 then (dn (some false)) else (some (.next (WR (v1 + 1))))) else (dn (some true))
def leqCellS (a0 : List TCell) (a1 : List TCell) : Option Bool :=
  bif !eqB ((a0.length : Nat) : Int) ((a1.length : Nat) : Int) then (some false) else (iter (leqCellS_L1 a0 a1) FU 0)
theorem leqCellS_c {a0 : List TCell} {a1 : List TCell} {r : Bool} (H : leqCellS a0 a1 = some r) : Fn Tryz.prog 139 [aL (a0.map eTCell), aL (a1.map eTCell)] [.c (.d (.b r))] := by
  refine fn_in Tryz.func139 rfl (by kernel_rfl) Tryz.ntmps139 rfl rfl rfl ?_
  refine wkd ?_
  refine awc_cond rfl (fun h => ?_) (fun h => ?_)
  · have H := bt h H
    refine wkd ?_
    cases H
    exact fin_ret (.cons (.tmp rfl) .nil) rfl rfl rfl
  · have H := bf h H
    refine wkd ?_
    refine awc_iter (fun (q : Int) => ⟨[(0, .v (.c (.d false (.l (a0.map eTCell))))), (1, .v (.c (.d false (.l (a1.map eTCell))))), (5, tI q)], [], 0⟩) H (weak_of ⟨rfl, rfl, rfl, rfl, rfl, rfl, trivial⟩ trivial) ?_
    rintro v1 o H
    try dsimp only
    refine wkd ?_
    refine awc_cond rfl (fun h => ?_) (fun h => ?_)
    · have H := bt h H
      refine wkd ?_
      obtain ⟨x2, hx2, H⟩ := ob H
      refine dr_n rfl (xdT (enc := eTCell) hx2 (fun _ => rfl) rfl rfl rfl) ?_
      refine wkd ?_
      obtain ⟨x3, hx3, H⟩ := ob H
      refine dr_n rfl (xdT (enc := eTCell) hx3 (fun _ => rfl) rfl rfl rfl) ?_
      refine wkd ?_
      obtain ⟨r4, hr4, H⟩ := ob H
      refine dr_n rfl (ca rfl rfl rfl (leqCell_c hr4) trivial rfl rfl rfl rfl) ?_
      refine wkd ?_
      refine awc_cond rfl (fun h => ?_) (fun h => ?_)
      · have H := bt h H
        refine wkd ?_
        obtain ⟨r0, Hd, rfl⟩ := dnE H
        refine iq_r (fun hq => ?_)
        have H := Hd.trans (congrArg some hq)
        refine wkd ?_
        cases H
        exact fin_ret (.cons (.tmp rfl) .nil) rfl rfl rfl
      · have H := bf h H
        refine wkd ?_
        cases H
        refine iq_n ?_
        exact weak_of ⟨rfl, rfl, rfl, rfl, rfl, rfl, trivial⟩ trivial
    · have H := bf h H
      refine wkd ?_
      obtain ⟨r0, Hd, rfl⟩ := dnE H
      refine iq_e (fun hq => ?_)
      have H := Hd.trans (congrArg some hq)
      refine wkd ?_
      cases H
      exact fin_ret (.cons (.tmp rfl) .nil) rfl rfl rfl
def leqCellMap (a0 : TCellMap) (a1 : TCellMap) : Option Bool :=
  Option.bind (leqCellS a0.Cells a1.Cells) fun r1 => bif !r1 then (some false) else (some true)
theorem leqCellMap_c {a0 : TCellMap} {a1 : TCellMap} {r : Bool} (H : leqCellMap a0 a1 = some r) : Fn Tryz.prog 75 [.agg (eTCellMap a0), .agg (eTCellMap a1)] [.c (.d (.b r))] := by
  refine fn_in Tryz.func75 rfl (by kernel_rfl) Tryz.ntmps75 rfl rfl rfl ?_
  refine wk ?_
  obtain ⟨r1, hr1, H⟩ := ob H
  refine awr_n rfl (ca rfl rfl rfl (leqCellS_c hr1) trivial rfl rfl rfl rfl) ?_
  refine wk ?_
  refine awc_cond rfl (fun h => ?_) (fun h => ?_)
  · have H := bt h H
    refine wk ?_
    cases H
    exact fin_ret (.cons (.tmp rfl) .nil) rfl rfl rfl
  · have H := bf h H
    refine wk ?_
    cases H
    exact fin_ret (.cons (.tmp rfl) .nil) rfl rfl rfl
def leqSubscriberID (a0 : TSubscriberID) (a1 : TSubscriberID) : Option Bool :=
  bif !eqB a0.Network a1.Network then (some false) else (bif !eqB a0.Number a1.Number then (some false) else (some true))
theorem leqSubscriberID_c {a0 : TSubscriberID} {a1 : TSubscriberID} {r : Bool} (H : leqSubscriberID a0 a1 = some r) : Fn Tryz.prog 249 [.agg (eTSubscriberID a0), .agg (eTSubscriberID a1)] [.c (.d (.b r))] := by
  refine fn_in Tryz.func249 rfl (by kernel_rfl) Tryz.ntmps249 rfl rfl rfl ?_
  refine wk ?_
  refine awc_cond rfl (fun h => ?_) (fun h => ?_)
  · have H := bt h H
    refine wk ?_
    cases H
    exact fin_ret (.cons (.tmp rfl) .nil) rfl rfl rfl
  · have H := bf h H
    refine wk ?_
    refine awc_cond rfl (fun h => ?_) (fun h => ?_)
    · have H := bt h H
      refine wk ?_
      cases H
      exact fin_ret (.cons (.tmp rfl) .nil) rfl rfl rfl
    · have H := bf h H
      refine wk ?_
      cases H
      exact fin_ret (.cons (.tmp rfl) .nil) rfl rfl rfl
def leqUSIM (a0 : TUSIM) (a1 : TUSIM) : Option Bool :=
  Option.bind (leqSubscriberID a0.ID a1.ID) fun r1 => bif !r1 then (some false) else (bif !eqB a0.Key a1.Key then (some false) else (bif !eqB a0.LastSeq a1.LastSeq then (some false) else (some true)))
theorem leqUSIM_c {a0 : TUSIM} {a1 : TUSIM} {r : Bool} (H : leqUSIM a0 a1 = some r) : Fn Tryz.prog 210 [.agg (eTUSIM a0), .agg (eTUSIM a1)] [.c (.d (.b r))] := by
  refine fn_in Tryz.func210 rfl (by kernel_rfl) Tryz.ntmps210 rfl rfl rfl ?_
  refine wk ?_
  obtain ⟨r1, hr1, H⟩ := ob H
  refine awr_n rfl (ca rfl rfl rfl (leqSubscriberID_c hr1) trivial rfl rfl rfl rfl) ?_
  refine wk ?_
  refine awc_cond rfl (fun h => ?_) (fun h => ?_)
  · have H := bt h H
    refine wk ?_
    cases H
    exact fin_ret (.cons (.tmp rfl) .nil) rfl rfl rfl
  · have H := bf h H
    refine wk ?_
    refine awc_cond rfl (fun h => ?_) (fun h => ?_)
    · have H := bt h H
      refine wk ?_
      cases H
      exact fin_ret (.cons (.tmp rfl) .nil) rfl rfl rfl
    · have H := bf h H
      refine wk ?_
      refine awc_cond rfl (fun h => ?_) (fun h => ?_)
      · have H := bt h H
        refine wk ?_
        cases H
        exact fin_ret (.cons (.tmp rfl) .nil) rfl rfl rfl
      · have H := bf h H
        refine wk ?_
        cases H
        exact fin_ret (.cons (.tmp rfl) .nil) rfl rfl rfl
def leqPayload (a0 : TPayload) (a1 : TPayload) : Option Bool :=
  Option.bind (leqByteS a0.Data a1.Data) fun r1 => bif !r1 then (some false) else (some true)
theorem leqPayload_c {a0 : TPayload} {a1 : TPayload} {r : Bool} (H : leqPayload a0 a1 = some r) : Fn Tryz.prog 251 [.agg (eTPayload a0), .agg (eTPayload a1)] [.c (.d (.b r))] := by
  refine fn_in Tryz.func251 rfl (by kernel_rfl) Tryz.ntmps251 rfl rfl rfl ?_
  refine wk ?_
  obtain ⟨r1, hr1, H⟩ := ob H
  refine awr_n rfl (ca rfl rfl rfl (leqByteS_c hr1) trivial rfl rfl rfl rfl) ?_
  refine wk ?_
  refine awc_cond rfl (fun h => ?_) (fun h => ?_)
  · have H := bt h H
    refine wk ?_
    cases H
    exact fin_ret (.cons (.tmp rfl) .nil) rfl rfl rfl
  · have H := bf h H
    refine wk ?_
    cases H
    exact fin_ret (.cons (.tmp rfl) .nil) rfl rfl rfl
def leqPayloadS_L1 (a0 : List TPayload) (a1 : List TPayload) : Int → Option (Step (Int) (Bool))
  | v1 => bif ltB v1 ((a0.length : Nat) : Int) then (Option.bind (ix a0 v1) fun x2 => Option.bind (ix a1 v1) fun x3 => Option.bind (leqPayload x2 x3) fun r4 => bif !r4 then (dn (some false)) else (some (.next (WR (v1 + 1))))) else (dn (some true))
def leqPayloadS (a0 : List TPayload) (a1 : List TPayload) : Option Bool :=
  bif !eqB ((a0.length : Nat) : Int) ((a1.length : Nat) : Int) then (some false) else (iter (leqPayloadS_L1 a0 a1) FU 0)
theorem leqPayloadS_c {a0 : List TPayload} {a1 : List TPayload} {r : Bool} (H : leqPayloadS a0 a1 = some r) : Fn Tryz.prog 216 [aL (a0.map eTPayload), aL (a1.map eTPayload)] [.c (.d (.b r))] := by
  refine fn_in Tryz.func216 rfl (by kernel_rfl) Tryz.ntmps216 rfl rfl rfl ?_
  refine wkd ?_
  refine awc_cond rfl (fun h => ?_) (fun h => ?_)
  · have H := bt h H
    refine wkd ?_
    cases H
    exact fin_ret (.cons (.tmp rfl) .nil) rfl rfl rfl
  · have H := bf h H
    refine wkd ?_
    refine awc_iter (fun (q : Int) => ⟨[(0, .v (.c (.d false (.l (a0.map eTPayload))))), (1, .v (.c (.d false (.l (a1.map eTPayload))))), (5, tI q)], [], 0⟩) H (weak_of ⟨rfl, rfl, rfl, rfl, rfl, rfl, trivial⟩ trivial) ?_
    rintro v1 o H
    try dsimp only
    refine wkd ?_
    refine awc_cond rfl (fun h => ?_) (fun h => ?_)
    · have H := bt h H
      refine wkd ?_
      obtain ⟨x2, hx2, H⟩ := ob H
      refine dr_n rfl (xdT (enc := eTPayload) hx2 (fun _ => rfl) rfl rfl rfl) ?_
      refine wkd ?_
      obtain ⟨x3, hx3, H⟩ := ob H
      refine dr_n rfl (xdT (enc := eTPayload) hx3 (fun _ => rfl) rfl rfl rfl) ?_
      refine wkd ?_
      obtain ⟨r4, hr4, H⟩ := ob H
      refine dr_n rfl (ca rfl rfl rfl (leqPayload_c hr4) trivial rfl rfl rfl rfl) ?_
      refine wkd ?_
      refine awc_cond rfl (fun h => ?_) (fun h => ?_)
      · have H := bt h H
        refine wkd ?_
        obtain ⟨r0, Hd, rfl⟩ := dnE H
        refine iq_r (fun hq => ?_)
        have H := Hd.trans (congrArg some hq)
        refine wkd ?_
        cases H
        exact fin_ret (.cons (.tmp rfl) .nil) rfl rfl rfl
      · have H := bf h H
        refine wkd ?_
        cases H
        refine iq_n ?_
        exact weak_of ⟨rfl, rfl, rfl, rfl, rfl, rfl, trivial⟩ trivial
    · have H := bf h H
      refine wkd ?_
      obtain ⟨r0, Hd, rfl⟩ := dnE H
      refine iq_e (fun hq => ?_)
      have H := Hd.trans (congrArg some hq)
      refine wkd ?_
      cases H
      exact fin_ret (.cons (.tmp rfl) .nil) rfl rfl rfl
def leqNumberedPacket (a0 : TNumberedPacket) (a1 : TNumberedPacket) : Option Bool :=
  bif !eqB a0.Seq a1.Seq then (some false) else (Option.bind (leqByteS a0.Data a1.Data) fun r1 => bif !r1 then (some false) else (some true))
theorem leqNumberedPacket_c {a0 : TNumberedPacket} {a1 : TNumberedPacket} {r : Bool} (H : leqNumberedPacket a0 a1 = some r) : Fn Tryz.prog 263 [.agg (eTNumberedPacket a0), .agg (eTNumberedPacket a1)] [.c (.d (.b r))] := by
  refine fn_in Tryz.func263 rfl (by kernel_rfl) Tryz.ntmps263 rfl rfl rfl ?_
  refine wk ?_
  refine awc_cond rfl (fun h => ?_) (fun h => ?_)
  · have H := bt h H
    refine wk ?_
    cases H
    exact fin_ret (.cons (.tmp rfl) .nil) rfl rfl rfl
  · have H := bf h H
    refine wk ?_
    obtain ⟨r1, hr1, H⟩ := ob H
    refine awr_n rfl (ca rfl rfl rfl (leqByteS_c hr1) trivial rfl rfl rfl rfl) ?_
    refine wk ?_
    refine awc_cond rfl (fun h => ?_) (fun h => ?_)
    · have H := bt h H
      refine wk ?_
      cases H
      exact fin_ret (.cons (.tmp rfl) .nil) rfl rfl rfl
    · have H := bf h H
      refine wk ?_
      cases H
      exact fin_ret (.cons (.tmp rfl) .nil) rfl rfl rfl
def leqNumberedPacketS_L1 (a0 : List TNumberedPacket) (a1 : List TNumberedPacket) : Int → Option (Step (Int) (Bool))
  | v1 => bif ltB v1 ((a0.length : Nat) : Int) then (Option.bind (ix a0 v1) fun x2 => Option.bind (ix a1 v1) fun x3 => Option.bind (leqNumberedPacket x2 x3) fun r4 => bif !r4 then (dn (some false)) else (some (.next (WR (v1 + 1))))) else (dn (some true))
def leqNumberedPacketS (a0 : List TNumberedPacket) (a1 : List TNumberedPacket) : Option Bool :=
  bif !eqB ((a0.length : Nat) : Int) ((a1.length : Nat) : Int) then (some false) else (iter (leqNumberedPacketS_L1 a0 a1) FU 0)
theorem leqNumberedPacketS_c {a0 : List TNumberedPacket} {a1 : List TNumberedPacket} {r : Bool} (H : leqNumberedPacketS a0 a1 = some r) : Fn Tryz.prog 250 [aL (a0.map eTNumberedPacket), aL (a1.map eTNumberedPacket)] [.c (.d (.b r))] := by
  refine fn_in Tryz.func250 rfl (by kernel_rfl) Tryz.ntmps250 rfl rfl rfl ?_
  refine wkd ?_
  refine awc_cond rfl (fun h => ?_) (fun h => ?_)
  · have H := bt h H
    refine wkd ?_
    cases H
    exact fin_ret (.cons (.tmp rfl) .nil) rfl rfl rfl
  · have H := bf h H
    refine wkd ?_
    refine awc_iter (fun (q : Int) => ⟨[(0, .v (.c (.d false (.l (a0.map eTNumberedPacket))))), (1, .v (.c (.d false (.l (a1.map eTNumberedPacket))))), (5, tI q)], [], 0⟩) H (weak_of ⟨rfl, rfl, rfl, rfl, rfl, rfl, trivial⟩ trivial) ?_
    rintro v1 o H
    try dsimp only
    refine wkd ?_
    refine awc_cond rfl (fun h => ?_) (fun h => ?_)
    · have H := bt h H
      refine wkd ?_
      obtain ⟨x2, hx2, H⟩ := ob H
      refine dr_n rfl (xdT (enc := eTNumberedPacket) hx2 (fun _ => rfl) rfl rfl rfl) ?_
      refine wkd ?_
      obtain ⟨x3, hx3, H⟩ := ob H
      refine dr_n rfl (xdT (enc := eTNumberedPacket) hx3 (fun _ => rfl) rfl rfl rfl) ?_
      refine wkd ?_
      obtain ⟨r4, hr4, H⟩ := ob H
      refine dr_n rfl (ca rfl rfl rfl (leqNumberedPacket_c hr4) trivial rfl rfl rfl rfl) ?_
      refine wkd ?_
      refine awc_cond rfl (fun h => ?_) (fun h => ?_)
      · have H := bt h H
        refine wkd ?_
        obtain ⟨r0, Hd, rfl⟩ := dnE H
        refine iq_r (fun hq => ?_)
        have H := Hd.trans (congrArg some hq)
        refine wkd ?_
        cases H
        exact fin_ret (.cons (.tmp rfl) .nil) rfl rfl rfl
      · have H := bf h H
        refine wkd ?_
        cases H
        refine iq_n ?_
        exact weak_of ⟨rfl, rfl, rfl, rfl, rfl, rfl, trivial⟩ trivial
    · have H := bf h H
      refine wkd ?_
      obtain ⟨r0, Hd, rfl⟩ := dnE H
      refine iq_e (fun hq => ?_)
      have H := Hd.trans (congrArg some hq)
      refine wkd ?_
      cases H
      exact fin_ret (.cons (.tmp rfl) .nil) rfl rfl rfl
def leqReceiveWindow (a0 : TReceiveWindow) (a1 : TReceiveWindow) : Option Bool :=
  bif !eqB a0.Next a1.Next then (some false) else (Option.bind (leqNumberedPacketS a0.Pending a1.Pending) fun r1 => bif !r1 then (some false) else (Option.bind (leqPayloadS a0.Delivered a1.Delivered) fun r2 => bif !r2 then (some false) else (some true)))
theorem leqReceiveWindow_c {a0 : TReceiveWindow} {a1 : TReceiveWindow} {r : Bool} (H : leqReceiveWindow a0 a1 = some r) : Fn Tryz.prog 211 [.agg (eTReceiveWindow a0), .agg (eTReceiveWindow a1)] [.c (.d (.b r))] := by
  refine fn_in Tryz.func211 rfl (by kernel_rfl) Tryz.ntmps211 rfl rfl rfl ?_
  refine wk ?_
  refine awc_cond rfl (fun h => ?_) (fun h => ?_)
  · have H := bt h H
    refine wk ?_
    cases H
    exact fin_ret (.cons (.tmp rfl) .nil) rfl rfl rfl
  · have H := bf h H
    refine wk ?_
    obtain ⟨r1, hr1, H⟩ := ob H
    refine awr_n rfl (ca rfl rfl rfl (leqNumberedPacketS_c hr1) trivial rfl rfl rfl rfl) ?_
    refine wk ?_
    refine awc_cond rfl (fun h => ?_) (fun h => ?_)
    · have H := bt h H
      refine wk ?_
      cases H
      exact fin_ret (.cons (.tmp rfl) .nil) rfl rfl rfl
    · have H := bf h H
      refine wk ?_
      obtain ⟨r2, hr2, H⟩ := ob H
      refine awr_n rfl (ca rfl rfl rfl (leqPayloadS_c hr2) trivial rfl rfl rfl rfl) ?_
      refine wk ?_
      refine awc_cond rfl (fun h => ?_) (fun h => ?_)
      · have H := bt h H
        refine wk ?_
        cases H
        exact fin_ret (.cons (.tmp rfl) .nil) rfl rfl rfl
      · have H := bf h H
        refine wk ?_
        cases H
        exact fin_ret (.cons (.tmp rfl) .nil) rfl rfl rfl
def leqDevice (a0 : TDevice) (a1 : TDevice) : Option Bool :=
  Option.bind (leqUSIM a0.Card a1.Card) fun r1 => bif !r1 then (some false) else (bif !eqB a0.State a1.State then (some false) else (bif !eqB a0.Cell a1.Cell then (some false) else (bif !eqB a0.Generation a1.Generation then (some false) else (bif !eqB a0.RootKey a1.RootKey then (some false) else (bif !eqB a0.Epoch a1.Epoch then (some false) else (bif !(booB a0.PathConfirmed a1.PathConfirmed) then (some false) else (bif !eqB a0.Wait a1.Wait then (some false) else (Option.bind (leqReceiveWindow a0.Receiver a1.Receiver) fun r2 => bif !r2 then (some false) else (some true)))))))))
theorem leqDevice_c {a0 : TDevice} {a1 : TDevice} {r : Bool} (H : leqDevice a0 a1 = some r) : Fn Tryz.prog 140 [.agg (eTDevice a0), .agg (eTDevice a1)] [.c (.d (.b r))] := by
  refine fn_in Tryz.func140 rfl (by kernel_rfl) Tryz.ntmps140 rfl rfl rfl ?_
  refine wk ?_
  obtain ⟨r1, hr1, H⟩ := ob H
  refine awr_n rfl (ca rfl rfl rfl (leqUSIM_c hr1) trivial rfl rfl rfl rfl) ?_
  refine wk ?_
  refine awc_cond rfl (fun h => ?_) (fun h => ?_)
  · have H := bt h H
    refine wk ?_
    cases H
    exact fin_ret (.cons (.tmp rfl) .nil) rfl rfl rfl
  · have H := bf h H
    refine wk ?_
    refine awc_cond rfl (fun h => ?_) (fun h => ?_)
    · have H := bt h H
      refine wk ?_
      cases H
      exact fin_ret (.cons (.tmp rfl) .nil) rfl rfl rfl
    · have H := bf h H
      refine wk ?_
      refine awc_cond rfl (fun h => ?_) (fun h => ?_)
      · have H := bt h H
        refine wk ?_
        cases H
        exact fin_ret (.cons (.tmp rfl) .nil) rfl rfl rfl
      · have H := bf h H
        refine wk ?_
        refine awc_cond rfl (fun h => ?_) (fun h => ?_)
        · have H := bt h H
          refine wk ?_
          cases H
          exact fin_ret (.cons (.tmp rfl) .nil) rfl rfl rfl
        · have H := bf h H
          refine wk ?_
          refine awc_cond rfl (fun h => ?_) (fun h => ?_)
          · have H := bt h H
            refine wk ?_
            cases H
            exact fin_ret (.cons (.tmp rfl) .nil) rfl rfl rfl
          · have H := bf h H
            refine wk ?_
            refine awc_cond rfl (fun h => ?_) (fun h => ?_)
            · have H := bt h H
              refine wk ?_
              cases H
              exact fin_ret (.cons (.tmp rfl) .nil) rfl rfl rfl
            · have H := bf h H
              refine wk ?_
              refine awc_cond rfl (fun h => ?_) (fun h => ?_)
              · have H := bt h H
                refine wk ?_
                cases H
                exact fin_ret (.cons (.tmp rfl) .nil) rfl rfl rfl
              · have H := bf h H
                refine wk ?_
                refine awc_cond rfl (fun h => ?_) (fun h => ?_)
                · have H := bt h H
                  refine wk ?_
                  cases H
                  exact fin_ret (.cons (.tmp rfl) .nil) rfl rfl rfl
                · have H := bf h H
                  refine wk ?_
                  obtain ⟨r2, hr2, H⟩ := ob H
                  refine awr_n rfl (ca rfl rfl rfl (leqReceiveWindow_c hr2) trivial rfl rfl rfl rfl) ?_
                  refine wk ?_
                  refine awc_cond rfl (fun h => ?_) (fun h => ?_)
                  · have H := bt h H
                    refine wk ?_
                    cases H
                    exact fin_ret (.cons (.tmp rfl) .nil) rfl rfl rfl
                  · have H := bf h H
                    refine wk ?_
                    cases H
                    exact fin_ret (.cons (.tmp rfl) .nil) rfl rfl rfl
def leqDeviceS_L1 (a0 : List TDevice) (a1 : List TDevice) : Int → Option (Step (Int) (Bool))
  | v1 => bif ltB v1 ((a0.length : Nat) : Int) then (Option.bind (ix a0 v1) fun x2 => Option.bind (ix a1 v1) fun x3 => Option.bind (leqDevice x2 x3) fun r4 => bif !r4 then (dn (some false)) else (some (.next (WR (v1 + 1))))) else (dn (some true))
def leqDeviceS (a0 : List TDevice) (a1 : List TDevice) : Option Bool :=
  bif !eqB ((a0.length : Nat) : Int) ((a1.length : Nat) : Int) then (some false) else (iter (leqDeviceS_L1 a0 a1) FU 0)
theorem leqDeviceS_c {a0 : List TDevice} {a1 : List TDevice} {r : Bool} (H : leqDeviceS a0 a1 = some r) : Fn Tryz.prog 76 [aL (a0.map eTDevice), aL (a1.map eTDevice)] [.c (.d (.b r))] := by
  refine fn_in Tryz.func76 rfl (by kernel_rfl) Tryz.ntmps76 rfl rfl rfl ?_
  refine wkd ?_
  refine awc_cond rfl (fun h => ?_) (fun h => ?_)
  · have H := bt h H
    refine wkd ?_
    cases H
    exact fin_ret (.cons (.tmp rfl) .nil) rfl rfl rfl
  · have H := bf h H
    refine wkd ?_
    refine awc_iter (fun (q : Int) => ⟨[(0, .v (.c (.d false (.l (a0.map eTDevice))))), (1, .v (.c (.d false (.l (a1.map eTDevice))))), (5, tI q)], [], 0⟩) H (weak_of ⟨rfl, rfl, rfl, rfl, rfl, rfl, trivial⟩ trivial) ?_
    rintro v1 o H
    try dsimp only
    refine wkd ?_
    refine awc_cond rfl (fun h => ?_) (fun h => ?_)
    · have H := bt h H
      refine wkd ?_
      obtain ⟨x2, hx2, H⟩ := ob H
      refine dr_n rfl (xdT (enc := eTDevice) hx2 (fun _ => rfl) rfl rfl rfl) ?_
      refine wkd ?_
      obtain ⟨x3, hx3, H⟩ := ob H
      refine dr_n rfl (xdT (enc := eTDevice) hx3 (fun _ => rfl) rfl rfl rfl) ?_
      refine wkd ?_
      obtain ⟨r4, hr4, H⟩ := ob H
      refine dr_n rfl (ca rfl rfl rfl (leqDevice_c hr4) trivial rfl rfl rfl rfl) ?_
      refine wkd ?_
      refine awc_cond rfl (fun h => ?_) (fun h => ?_)
      · have H := bt h H
        refine wkd ?_
        obtain ⟨r0, Hd, rfl⟩ := dnE H
        refine iq_r (fun hq => ?_)
        have H := Hd.trans (congrArg some hq)
        refine wkd ?_
        cases H
        exact fin_ret (.cons (.tmp rfl) .nil) rfl rfl rfl
      · have H := bf h H
        refine wkd ?_
        cases H
        refine iq_n ?_
        exact weak_of ⟨rfl, rfl, rfl, rfl, rfl, rfl, trivial⟩ trivial
    · have H := bf h H
      refine wkd ?_
      obtain ⟨r0, Hd, rfl⟩ := dnE H
      refine iq_e (fun hq => ?_)
      have H := Hd.trans (congrArg some hq)
      refine wkd ?_
      cases H
      exact fin_ret (.cons (.tmp rfl) .nil) rfl rfl rfl
def leqSubscriberRecord (a0 : TSubscriberRecord) (a1 : TSubscriberRecord) : Option Bool :=
  Option.bind (leqSubscriberID a0.ID a1.ID) fun r1 => bif !r1 then (some false) else (bif !eqB a0.Key a1.Key then (some false) else (bif !eqB a0.Seq a1.Seq then (some false) else (some true)))
theorem leqSubscriberRecord_c {a0 : TSubscriberRecord} {a1 : TSubscriberRecord} {r : Bool} (H : leqSubscriberRecord a0 a1 = some r) : Fn Tryz.prog 212 [.agg (eTSubscriberRecord a0), .agg (eTSubscriberRecord a1)] [.c (.d (.b r))] := by
  refine fn_in Tryz.func212 rfl (by kernel_rfl) Tryz.ntmps212 rfl rfl rfl ?_
  refine wk ?_
  obtain ⟨r1, hr1, H⟩ := ob H
  refine awr_n rfl (ca rfl rfl rfl (leqSubscriberID_c hr1) trivial rfl rfl rfl rfl) ?_
  refine wk ?_
  refine awc_cond rfl (fun h => ?_) (fun h => ?_)
  · have H := bt h H
    refine wk ?_
    cases H
    exact fin_ret (.cons (.tmp rfl) .nil) rfl rfl rfl
  · have H := bf h H
    refine wk ?_
    refine awc_cond rfl (fun h => ?_) (fun h => ?_)
    · have H := bt h H
      refine wk ?_
      cases H
      exact fin_ret (.cons (.tmp rfl) .nil) rfl rfl rfl
    · have H := bf h H
      refine wk ?_
      refine awc_cond rfl (fun h => ?_) (fun h => ?_)
      · have H := bt h H
        refine wk ?_
        cases H
        exact fin_ret (.cons (.tmp rfl) .nil) rfl rfl rfl
      · have H := bf h H
        refine wk ?_
        cases H
        exact fin_ret (.cons (.tmp rfl) .nil) rfl rfl rfl
def leqSubscription (a0 : TSubscription) (a1 : TSubscription) : Option Bool :=
  bif !eqB a0.RateLimit a1.RateLimit then (some false) else (bif !eqB a0.BestClass a1.BestClass then (some false) else (bif !eqB a0.GrantSize a1.GrantSize then (some false) else (Option.bind (leqIntS a0.RoamingNetworks a1.RoamingNetworks) fun r1 => bif !r1 then (some false) else (some true))))
theorem leqSubscription_c {a0 : TSubscription} {a1 : TSubscription} {r : Bool} (H : leqSubscription a0 a1 = some r) : Fn Tryz.prog 213 [.agg (eTSubscription a0), .agg (eTSubscription a1)] [.c (.d (.b r))] := by
  refine fn_in Tryz.func213 rfl (by kernel_rfl) Tryz.ntmps213 rfl rfl rfl ?_
  refine wk ?_
  refine awc_cond rfl (fun h => ?_) (fun h => ?_)
  · have H := bt h H
    refine wk ?_
    cases H
    exact fin_ret (.cons (.tmp rfl) .nil) rfl rfl rfl
  · have H := bf h H
    refine wk ?_
    refine awc_cond rfl (fun h => ?_) (fun h => ?_)
    · have H := bt h H
      refine wk ?_
      cases H
      exact fin_ret (.cons (.tmp rfl) .nil) rfl rfl rfl
    · have H := bf h H
      refine wk ?_
      refine awc_cond rfl (fun h => ?_) (fun h => ?_)
      · have H := bt h H
        refine wk ?_
        cases H
        exact fin_ret (.cons (.tmp rfl) .nil) rfl rfl rfl
      · have H := bf h H
        refine wk ?_
        obtain ⟨r1, hr1, H⟩ := ob H
        refine awr_n rfl (ca rfl rfl rfl (leqIntS_c hr1) trivial rfl rfl rfl rfl) ?_
        refine wk ?_
        refine awc_cond rfl (fun h => ?_) (fun h => ?_)
        · have H := bt h H
          refine wk ?_
          cases H
          exact fin_ret (.cons (.tmp rfl) .nil) rfl rfl rfl
        · have H := bf h H
          refine wk ?_
          cases H
          exact fin_ret (.cons (.tmp rfl) .nil) rfl rfl rfl
def leqAuthVector (a0 : TAuthVector) (a1 : TAuthVector) : Option Bool :=
  bif !eqB a0.Rand a1.Rand then (some false) else (bif !eqB a0.Autn a1.Autn then (some false) else (bif !eqB a0.MAC a1.MAC then (some false) else (bif !eqB a0.Res a1.Res then (some false) else (bif !eqB a0.Key a1.Key then (some false) else (some true)))))
theorem leqAuthVector_c {a0 : TAuthVector} {a1 : TAuthVector} {r : Bool} (H : leqAuthVector a0 a1 = some r) : Fn Tryz.prog 214 [.agg (eTAuthVector a0), .agg (eTAuthVector a1)] [.c (.d (.b r))] := by
  refine fn_in Tryz.func214 rfl (by kernel_rfl) Tryz.ntmps214 rfl rfl rfl ?_
  refine wk ?_
  refine awc_cond rfl (fun h => ?_) (fun h => ?_)
  · have H := bt h H
    refine wk ?_
    cases H
    exact fin_ret (.cons (.tmp rfl) .nil) rfl rfl rfl
  · have H := bf h H
    refine wk ?_
    refine awc_cond rfl (fun h => ?_) (fun h => ?_)
    · have H := bt h H
      refine wk ?_
      cases H
      exact fin_ret (.cons (.tmp rfl) .nil) rfl rfl rfl
    · have H := bf h H
      refine wk ?_
      refine awc_cond rfl (fun h => ?_) (fun h => ?_)
      · have H := bt h H
        refine wk ?_
        cases H
        exact fin_ret (.cons (.tmp rfl) .nil) rfl rfl rfl
      · have H := bf h H
        refine wk ?_
        refine awc_cond rfl (fun h => ?_) (fun h => ?_)
        · have H := bt h H
          refine wk ?_
          cases H
          exact fin_ret (.cons (.tmp rfl) .nil) rfl rfl rfl
        · have H := bf h H
          refine wk ?_
          refine awc_cond rfl (fun h => ?_) (fun h => ?_)
          · have H := bt h H
            refine wk ?_
            cases H
            exact fin_ret (.cons (.tmp rfl) .nil) rfl rfl rfl
          · have H := bf h H
            refine wk ?_
            cases H
            exact fin_ret (.cons (.tmp rfl) .nil) rfl rfl rfl
def leqPagingState (a0 : TPagingState) (a1 : TPagingState) : Option Bool :=
  bif !eqB a0.Area a1.Area then (some false) else (bif !eqB a0.Attempt a1.Attempt then (some false) else (bif !eqB a0.Wait a1.Wait then (some false) else (some true)))
theorem leqPagingState_c {a0 : TPagingState} {a1 : TPagingState} {r : Bool} (H : leqPagingState a0 a1 = some r) : Fn Tryz.prog 215 [.agg (eTPagingState a0), .agg (eTPagingState a1)] [.c (.d (.b r))] := by
  refine fn_in Tryz.func215 rfl (by kernel_rfl) Tryz.ntmps215 rfl rfl rfl ?_
  refine wk ?_
  refine awc_cond rfl (fun h => ?_) (fun h => ?_)
  · have H := bt h H
    refine wk ?_
    cases H
    exact fin_ret (.cons (.tmp rfl) .nil) rfl rfl rfl
  · have H := bf h H
    refine wk ?_
    refine awc_cond rfl (fun h => ?_) (fun h => ?_)
    · have H := bt h H
      refine wk ?_
      cases H
      exact fin_ret (.cons (.tmp rfl) .nil) rfl rfl rfl
    · have H := bf h H
      refine wk ?_
      refine awc_cond rfl (fun h => ?_) (fun h => ?_)
      · have H := bt h H
        refine wk ?_
        cases H
        exact fin_ret (.cons (.tmp rfl) .nil) rfl rfl rfl
      · have H := bf h H
        refine wk ?_
        cases H
        exact fin_ret (.cons (.tmp rfl) .nil) rfl rfl rfl
def leqSendWindow (a0 : TSendWindow) (a1 : TSendWindow) : Option Bool :=
  bif !eqB a0.Next a1.Next then (some false) else (Option.bind (leqNumberedPacketS a0.Unacked a1.Unacked) fun r1 => bif !r1 then (some false) else (some true))
theorem leqSendWindow_c {a0 : TSendWindow} {a1 : TSendWindow} {r : Bool} (H : leqSendWindow a0 a1 = some r) : Fn Tryz.prog 217 [.agg (eTSendWindow a0), .agg (eTSendWindow a1)] [.c (.d (.b r))] := by
  refine fn_in Tryz.func217 rfl (by kernel_rfl) Tryz.ntmps217 rfl rfl rfl ?_
  refine wk ?_
  refine awc_cond rfl (fun h => ?_) (fun h => ?_)
  · have H := bt h H
    refine wk ?_
    cases H
    exact fin_ret (.cons (.tmp rfl) .nil) rfl rfl rfl
  · have H := bf h H
    refine wk ?_
    obtain ⟨r1, hr1, H⟩ := ob H
    refine awr_n rfl (ca rfl rfl rfl (leqNumberedPacketS_c hr1) trivial rfl rfl rfl rfl) ?_
    refine wk ?_
    refine awc_cond rfl (fun h => ?_) (fun h => ?_)
    · have H := bt h H
      refine wk ?_
      cases H
      exact fin_ret (.cons (.tmp rfl) .nil) rfl rfl rfl
    · have H := bf h H
      refine wk ?_
      cases H
      exact fin_ret (.cons (.tmp rfl) .nil) rfl rfl rfl
def leqQuota (a0 : TQuota) (a1 : TQuota) : Option Bool :=
  bif !eqB a0.SessionID a1.SessionID then (some false) else (bif !eqB a0.Granted a1.Granted then (some false) else (bif !eqB a0.Used a1.Used then (some false) else (some true)))
theorem leqQuota_c {a0 : TQuota} {a1 : TQuota} {r : Bool} (H : leqQuota a0 a1 = some r) : Fn Tryz.prog 218 [.agg (eTQuota a0), .agg (eTQuota a1)] [.c (.d (.b r))] := by
  refine fn_in Tryz.func218 rfl (by kernel_rfl) Tryz.ntmps218 rfl rfl rfl ?_
  refine wk ?_
  refine awc_cond rfl (fun h => ?_) (fun h => ?_)
  · have H := bt h H
    refine wk ?_
    cases H
    exact fin_ret (.cons (.tmp rfl) .nil) rfl rfl rfl
  · have H := bf h H
    refine wk ?_
    refine awc_cond rfl (fun h => ?_) (fun h => ?_)
    · have H := bt h H
      refine wk ?_
      cases H
      exact fin_ret (.cons (.tmp rfl) .nil) rfl rfl rfl
    · have H := bf h H
      refine wk ?_
      refine awc_cond rfl (fun h => ?_) (fun h => ?_)
      · have H := bt h H
        refine wk ?_
        cases H
        exact fin_ret (.cons (.tmp rfl) .nil) rfl rfl rfl
      · have H := bf h H
        refine wk ?_
        cases H
        exact fin_ret (.cons (.tmp rfl) .nil) rfl rfl rfl
def leqSession (a0 : TSession) (a1 : TSession) : Option Bool :=
  Option.bind (leqSubscriberRecord a0.Record a1.Record) fun r1 => bif !r1 then (some false) else (Option.bind (leqSubscription a0.Plan a1.Plan) fun r2 => bif !r2 then (some false) else (bif !eqB a0.State a1.State then (some false) else (Option.bind (leqAuthVector a0.Pending a1.Pending) fun r3 => bif !r3 then (some false) else (bif !eqB a0.PendingSeq a1.PendingSeq then (some false) else (bif !eqB a0.Generation a1.Generation then (some false) else (bif !eqB a0.RootKey a1.RootKey then (some false) else (bif !eqB a0.Epoch a1.Epoch then (some false) else (bif !eqB a0.Cell a1.Cell then (some false) else (bif !eqB a0.Quiet a1.Quiet then (some false) else (Option.bind (leqPagingState a0.Page a1.Page) fun r4 => bif !r4 then (some false) else (Option.bind (leqPayloadS a0.Submitted a1.Submitted) fun r5 => bif !r5 then (some false) else (Option.bind (leqSendWindow a0.Window a1.Window) fun r6 => bif !r6 then (some false) else (bif !eqB a0.Retry a1.Retry then (some false) else (Option.bind (leqQuota a0.Usage a1.Usage) fun r7 => bif !r7 then (some false) else (some true)))))))))))))))
theorem leqSession_c {a0 : TSession} {a1 : TSession} {r : Bool} (H : leqSession a0 a1 = some r) : Fn Tryz.prog 141 [.agg (eTSession a0), .agg (eTSession a1)] [.c (.d (.b r))] := by
  refine fn_in Tryz.func141 rfl (by kernel_rfl) Tryz.ntmps141 rfl rfl rfl ?_
  refine wk ?_
  obtain ⟨r1, hr1, H⟩ := ob H
  refine awr_n rfl (ca rfl rfl rfl (leqSubscriberRecord_c hr1) trivial rfl rfl rfl rfl) ?_
  refine wk ?_
  refine awc_cond rfl (fun h => ?_) (fun h => ?_)
  · have H := bt h H
    refine wk ?_
    cases H
    exact fin_ret (.cons (.tmp rfl) .nil) rfl rfl rfl
  · have H := bf h H
    refine wk ?_
    obtain ⟨r2, hr2, H⟩ := ob H
    refine awr_n rfl (ca rfl rfl rfl (leqSubscription_c hr2) trivial rfl rfl rfl rfl) ?_
    refine wk ?_
    refine awc_cond rfl (fun h => ?_) (fun h => ?_)
    · have H := bt h H
      refine wk ?_
      cases H
      exact fin_ret (.cons (.tmp rfl) .nil) rfl rfl rfl
    · have H := bf h H
      refine wk ?_
      refine awc_cond rfl (fun h => ?_) (fun h => ?_)
      · have H := bt h H
        refine wk ?_
        cases H
        exact fin_ret (.cons (.tmp rfl) .nil) rfl rfl rfl
      · have H := bf h H
        refine wk ?_
        obtain ⟨r3, hr3, H⟩ := ob H
        refine awr_n rfl (ca rfl rfl rfl (leqAuthVector_c hr3) trivial rfl rfl rfl rfl) ?_
        refine wk ?_
        refine awc_cond rfl (fun h => ?_) (fun h => ?_)
        · have H := bt h H
          refine wk ?_
          cases H
          exact fin_ret (.cons (.tmp rfl) .nil) rfl rfl rfl
        · have H := bf h H
          refine wk ?_
          refine awc_cond rfl (fun h => ?_) (fun h => ?_)
          · have H := bt h H
            refine wk ?_
            cases H
            exact fin_ret (.cons (.tmp rfl) .nil) rfl rfl rfl
          · have H := bf h H
            refine wk ?_
            refine awc_cond rfl (fun h => ?_) (fun h => ?_)
            · have H := bt h H
              refine wk ?_
              cases H
              exact fin_ret (.cons (.tmp rfl) .nil) rfl rfl rfl
            · have H := bf h H
              refine wk ?_
              refine awc_cond rfl (fun h => ?_) (fun h => ?_)
              · have H := bt h H
                refine wk ?_
                cases H
                exact fin_ret (.cons (.tmp rfl) .nil) rfl rfl rfl
              · have H := bf h H
                refine wk ?_
                refine awc_cond rfl (fun h => ?_) (fun h => ?_)
                · have H := bt h H
                  refine wk ?_
                  cases H
                  exact fin_ret (.cons (.tmp rfl) .nil) rfl rfl rfl
                · have H := bf h H
                  refine wk ?_
                  refine awc_cond rfl (fun h => ?_) (fun h => ?_)
                  · have H := bt h H
                    refine wk ?_
                    cases H
                    exact fin_ret (.cons (.tmp rfl) .nil) rfl rfl rfl
                  · have H := bf h H
                    refine wk ?_
                    refine awc_cond rfl (fun h => ?_) (fun h => ?_)
                    · have H := bt h H
                      refine wk ?_
                      cases H
                      exact fin_ret (.cons (.tmp rfl) .nil) rfl rfl rfl
                    · have H := bf h H
                      refine wk ?_
                      obtain ⟨r4, hr4, H⟩ := ob H
                      refine awr_n rfl (ca rfl rfl rfl (leqPagingState_c hr4) trivial rfl rfl rfl rfl) ?_
                      refine wk ?_
                      refine awc_cond rfl (fun h => ?_) (fun h => ?_)
                      · have H := bt h H
                        refine wk ?_
                        cases H
                        exact fin_ret (.cons (.tmp rfl) .nil) rfl rfl rfl
                      · have H := bf h H
                        refine wk ?_
                        obtain ⟨r5, hr5, H⟩ := ob H
                        refine awr_n rfl (ca rfl rfl rfl (leqPayloadS_c hr5) trivial rfl rfl rfl rfl) ?_
                        refine wk ?_
                        refine awc_cond rfl (fun h => ?_) (fun h => ?_)
                        · have H := bt h H
                          refine wk ?_
                          cases H
                          exact fin_ret (.cons (.tmp rfl) .nil) rfl rfl rfl
                        · have H := bf h H
                          refine wk ?_
                          obtain ⟨r6, hr6, H⟩ := ob H
                          refine awr_n rfl (ca rfl rfl rfl (leqSendWindow_c hr6) trivial rfl rfl rfl rfl) ?_
                          refine wk ?_
                          refine awc_cond rfl (fun h => ?_) (fun h => ?_)
                          · have H := bt h H
                            refine wk ?_
                            cases H
                            exact fin_ret (.cons (.tmp rfl) .nil) rfl rfl rfl
                          · have H := bf h H
                            refine wk ?_
                            refine awc_cond rfl (fun h => ?_) (fun h => ?_)
                            · have H := bt h H
                              refine wk ?_
                              cases H
                              exact fin_ret (.cons (.tmp rfl) .nil) rfl rfl rfl
                            · have H := bf h H
                              refine wk ?_
                              obtain ⟨r7, hr7, H⟩ := ob H
                              refine awr_n rfl (ca rfl rfl rfl (leqQuota_c hr7) trivial rfl rfl rfl rfl) ?_
                              refine wk ?_
                              refine awc_cond rfl (fun h => ?_) (fun h => ?_)
                              · have H := bt h H
                                refine wk ?_
                                cases H
                                exact fin_ret (.cons (.tmp rfl) .nil) rfl rfl rfl
                              · have H := bf h H
                                refine wk ?_
                                cases H
                                exact fin_ret (.cons (.tmp rfl) .nil) rfl rfl rfl
def leqSessionS_L1 (a0 : List TSession) (a1 : List TSession) : Int → Option (Step (Int) (Bool))
  | v1 => bif ltB v1 ((a0.length : Nat) : Int) then (Option.bind (ix a0 v1) fun x2 => Option.bind (ix a1 v1) fun x3 => Option.bind (leqSession x2 x3) fun r4 => bif !r4 then (dn (some false)) else (some (.next (WR (v1 + 1))))) else (dn (some true))
def leqSessionS (a0 : List TSession) (a1 : List TSession) : Option Bool :=
  bif !eqB ((a0.length : Nat) : Int) ((a1.length : Nat) : Int) then (some false) else (iter (leqSessionS_L1 a0 a1) FU 0)
theorem leqSessionS_c {a0 : List TSession} {a1 : List TSession} {r : Bool} (H : leqSessionS a0 a1 = some r) : Fn Tryz.prog 77 [aL (a0.map eTSession), aL (a1.map eTSession)] [.c (.d (.b r))] := by
  refine fn_in Tryz.func77 rfl (by kernel_rfl) Tryz.ntmps77 rfl rfl rfl ?_
  refine wkd ?_
  refine awc_cond rfl (fun h => ?_) (fun h => ?_)
  · have H := bt h H
    refine wkd ?_
    cases H
    exact fin_ret (.cons (.tmp rfl) .nil) rfl rfl rfl
  · have H := bf h H
    refine wkd ?_
    refine awc_iter (fun (q : Int) => ⟨[(0, .v (.c (.d false (.l (a0.map eTSession))))), (1, .v (.c (.d false (.l (a1.map eTSession))))), (5, tI q)], [], 0⟩) H (weak_of ⟨rfl, rfl, rfl, rfl, rfl, rfl, trivial⟩ trivial) ?_
    rintro v1 o H
    try dsimp only
    refine wkd ?_
    refine awc_cond rfl (fun h => ?_) (fun h => ?_)
    · have H := bt h H
      refine wkd ?_
      obtain ⟨x2, hx2, H⟩ := ob H
      refine dr_n rfl (xdT (enc := eTSession) hx2 (fun _ => rfl) rfl rfl rfl) ?_
      refine wkd ?_
      obtain ⟨x3, hx3, H⟩ := ob H
      refine dr_n rfl (xdT (enc := eTSession) hx3 (fun _ => rfl) rfl rfl rfl) ?_
      refine wkd ?_
      obtain ⟨r4, hr4, H⟩ := ob H
      refine dr_n rfl (ca rfl rfl rfl (leqSession_c hr4) trivial rfl rfl rfl rfl) ?_
      refine wkd ?_
      refine awc_cond rfl (fun h => ?_) (fun h => ?_)
      · have H := bt h H
        refine wkd ?_
        obtain ⟨r0, Hd, rfl⟩ := dnE H
        refine iq_r (fun hq => ?_)
        have H := Hd.trans (congrArg some hq)
        refine wkd ?_
        cases H
        exact fin_ret (.cons (.tmp rfl) .nil) rfl rfl rfl
      · have H := bf h H
        refine wkd ?_
        cases H
        refine iq_n ?_
        exact weak_of ⟨rfl, rfl, rfl, rfl, rfl, rfl, trivial⟩ trivial
    · have H := bf h H
      refine wkd ?_
      obtain ⟨r0, Hd, rfl⟩ := dnE H
      refine iq_e (fun hq => ?_)
      have H := Hd.trans (congrArg some hq)
      refine wkd ?_
      cases H
      exact fin_ret (.cons (.tmp rfl) .nil) rfl rfl rfl
def leqReservation (a0 : TReservation) (a1 : TReservation) : Option Bool :=
  bif !eqB a0.SessionID a1.SessionID then (some false) else (bif !eqB a0.Amount a1.Amount then (some false) else (some true))
theorem leqReservation_c {a0 : TReservation} {a1 : TReservation} {r : Bool} (H : leqReservation a0 a1 = some r) : Fn Tryz.prog 252 [.agg (eTReservation a0), .agg (eTReservation a1)] [.c (.d (.b r))] := by
  refine fn_in Tryz.func252 rfl (by kernel_rfl) Tryz.ntmps252 rfl rfl rfl ?_
  refine wk ?_
  refine awc_cond rfl (fun h => ?_) (fun h => ?_)
  · have H := bt h H
    refine wk ?_
    cases H
    exact fin_ret (.cons (.tmp rfl) .nil) rfl rfl rfl
  · have H := bf h H
    refine wk ?_
    refine awc_cond rfl (fun h => ?_) (fun h => ?_)
    · have H := bt h H
      refine wk ?_
      cases H
      exact fin_ret (.cons (.tmp rfl) .nil) rfl rfl rfl
    · have H := bf h H
      refine wk ?_
      cases H
      exact fin_ret (.cons (.tmp rfl) .nil) rfl rfl rfl
def leqReservationS_L1 (a0 : List TReservation) (a1 : List TReservation) : Int → Option (Step (Int) (Bool))
  | v1 => bif ltB v1 ((a0.length : Nat) : Int) then (Option.bind (ix a0 v1) fun x2 => Option.bind (ix a1 v1) fun x3 => Option.bind (leqReservation x2 x3) fun r4 => bif !r4 then (dn (some false)) else (some (.next (WR (v1 + 1))))) else (dn (some true))
def leqReservationS (a0 : List TReservation) (a1 : List TReservation) : Option Bool :=
  bif !eqB ((a0.length : Nat) : Int) ((a1.length : Nat) : Int) then (some false) else (iter (leqReservationS_L1 a0 a1) FU 0)
theorem leqReservationS_c {a0 : List TReservation} {a1 : List TReservation} {r : Bool} (H : leqReservationS a0 a1 = some r) : Fn Tryz.prog 219 [aL (a0.map eTReservation), aL (a1.map eTReservation)] [.c (.d (.b r))] := by
  refine fn_in Tryz.func219 rfl (by kernel_rfl) Tryz.ntmps219 rfl rfl rfl ?_
  refine wkd ?_
  refine awc_cond rfl (fun h => ?_) (fun h => ?_)
  · have H := bt h H
    refine wkd ?_
    cases H
    exact fin_ret (.cons (.tmp rfl) .nil) rfl rfl rfl
  · have H := bf h H
    refine wkd ?_
    refine awc_iter (fun (q : Int) => ⟨[(0, .v (.c (.d false (.l (a0.map eTReservation))))), (1, .v (.c (.d false (.l (a1.map eTReservation))))), (5, tI q)], [], 0⟩) H (weak_of ⟨rfl, rfl, rfl, rfl, rfl, rfl, trivial⟩ trivial) ?_
    rintro v1 o H
    try dsimp only
    refine wkd ?_
    refine awc_cond rfl (fun h => ?_) (fun h => ?_)
    · have H := bt h H
      refine wkd ?_
      obtain ⟨x2, hx2, H⟩ := ob H
      refine dr_n rfl (xdT (enc := eTReservation) hx2 (fun _ => rfl) rfl rfl rfl) ?_
      refine wkd ?_
      obtain ⟨x3, hx3, H⟩ := ob H
      refine dr_n rfl (xdT (enc := eTReservation) hx3 (fun _ => rfl) rfl rfl rfl) ?_
      refine wkd ?_
      obtain ⟨r4, hr4, H⟩ := ob H
      refine dr_n rfl (ca rfl rfl rfl (leqReservation_c hr4) trivial rfl rfl rfl rfl) ?_
      refine wkd ?_
      refine awc_cond rfl (fun h => ?_) (fun h => ?_)
      · have H := bt h H
        refine wkd ?_
        obtain ⟨r0, Hd, rfl⟩ := dnE H
        refine iq_r (fun hq => ?_)
        have H := Hd.trans (congrArg some hq)
        refine wkd ?_
        cases H
        exact fin_ret (.cons (.tmp rfl) .nil) rfl rfl rfl
      · have H := bf h H
        refine wkd ?_
        cases H
        refine iq_n ?_
        exact weak_of ⟨rfl, rfl, rfl, rfl, rfl, rfl, trivial⟩ trivial
    · have H := bf h H
      refine wkd ?_
      obtain ⟨r0, Hd, rfl⟩ := dnE H
      refine iq_e (fun hq => ?_)
      have H := Hd.trans (congrArg some hq)
      refine wkd ?_
      cases H
      exact fin_ret (.cons (.tmp rfl) .nil) rfl rfl rfl
def leqAccount (a0 : TAccount) (a1 : TAccount) : Option Bool :=
  bif !eqB a0.Total a1.Total then (some false) else (bif !eqB a0.Available a1.Available then (some false) else (bif !eqB a0.Spent a1.Spent then (some false) else (Option.bind (leqReservationS a0.Reservations a1.Reservations) fun r1 => bif !r1 then (some false) else (some true))))
theorem leqAccount_c {a0 : TAccount} {a1 : TAccount} {r : Bool} (H : leqAccount a0 a1 = some r) : Fn Tryz.prog 142 [.agg (eTAccount a0), .agg (eTAccount a1)] [.c (.d (.b r))] := by
  refine fn_in Tryz.func142 rfl (by kernel_rfl) Tryz.ntmps142 rfl rfl rfl ?_
  refine wk ?_
  refine awc_cond rfl (fun h => ?_) (fun h => ?_)
  · have H := bt h H
    refine wk ?_
    cases H
    exact fin_ret (.cons (.tmp rfl) .nil) rfl rfl rfl
  · have H := bf h H
    refine wk ?_
    refine awc_cond rfl (fun h => ?_) (fun h => ?_)
    · have H := bt h H
      refine wk ?_
      cases H
      exact fin_ret (.cons (.tmp rfl) .nil) rfl rfl rfl
    · have H := bf h H
      refine wk ?_
      refine awc_cond rfl (fun h => ?_) (fun h => ?_)
      · have H := bt h H
        refine wk ?_
        cases H
        exact fin_ret (.cons (.tmp rfl) .nil) rfl rfl rfl
      · have H := bf h H
        refine wk ?_
        obtain ⟨r1, hr1, H⟩ := ob H
        refine awr_n rfl (ca rfl rfl rfl (leqReservationS_c hr1) trivial rfl rfl rfl rfl) ?_
        refine wk ?_
        refine awc_cond rfl (fun h => ?_) (fun h => ?_)
        · have H := bt h H
          refine wk ?_
          cases H
          exact fin_ret (.cons (.tmp rfl) .nil) rfl rfl rfl
        · have H := bf h H
          refine wk ?_
          cases H
          exact fin_ret (.cons (.tmp rfl) .nil) rfl rfl rfl
def leqAccountS_L1 (a0 : List TAccount) (a1 : List TAccount) : Int → Option (Step (Int) (Bool))
  | v1 => bif ltB v1 ((a0.length : Nat) : Int) then (Option.bind (ix a0 v1) fun x2 => Option.bind (ix a1 v1) fun x3 => Option.bind (leqAccount x2 x3) fun r4 => bif !r4 then (dn (some false)) else (some (.next (WR (v1 + 1))))) else (dn (some true))
def leqAccountS (a0 : List TAccount) (a1 : List TAccount) : Option Bool :=
  bif !eqB ((a0.length : Nat) : Int) ((a1.length : Nat) : Int) then (some false) else (iter (leqAccountS_L1 a0 a1) FU 0)
theorem leqAccountS_c {a0 : List TAccount} {a1 : List TAccount} {r : Bool} (H : leqAccountS a0 a1 = some r) : Fn Tryz.prog 78 [aL (a0.map eTAccount), aL (a1.map eTAccount)] [.c (.d (.b r))] := by
  refine fn_in Tryz.func78 rfl (by kernel_rfl) Tryz.ntmps78 rfl rfl rfl ?_
  refine wkd ?_
  refine awc_cond rfl (fun h => ?_) (fun h => ?_)
  · have H := bt h H
    refine wkd ?_
    cases H
    exact fin_ret (.cons (.tmp rfl) .nil) rfl rfl rfl
  · have H := bf h H
    refine wkd ?_
    refine awc_iter (fun (q : Int) => ⟨[(0, .v (.c (.d false (.l (a0.map eTAccount))))), (1, .v (.c (.d false (.l (a1.map eTAccount))))), (5, tI q)], [], 0⟩) H (weak_of ⟨rfl, rfl, rfl, rfl, rfl, rfl, trivial⟩ trivial) ?_
    rintro v1 o H
    try dsimp only
    refine wkd ?_
    refine awc_cond rfl (fun h => ?_) (fun h => ?_)
    · have H := bt h H
      refine wkd ?_
      obtain ⟨x2, hx2, H⟩ := ob H
      refine dr_n rfl (xdT (enc := eTAccount) hx2 (fun _ => rfl) rfl rfl rfl) ?_
      refine wkd ?_
      obtain ⟨x3, hx3, H⟩ := ob H
      refine dr_n rfl (xdT (enc := eTAccount) hx3 (fun _ => rfl) rfl rfl rfl) ?_
      refine wkd ?_
      obtain ⟨r4, hr4, H⟩ := ob H
      refine dr_n rfl (ca rfl rfl rfl (leqAccount_c hr4) trivial rfl rfl rfl rfl) ?_
      refine wkd ?_
      refine awc_cond rfl (fun h => ?_) (fun h => ?_)
      · have H := bt h H
        refine wkd ?_
        obtain ⟨r0, Hd, rfl⟩ := dnE H
        refine iq_r (fun hq => ?_)
        have H := Hd.trans (congrArg some hq)
        refine wkd ?_
        cases H
        exact fin_ret (.cons (.tmp rfl) .nil) rfl rfl rfl
      · have H := bf h H
        refine wkd ?_
        cases H
        refine iq_n ?_
        exact weak_of ⟨rfl, rfl, rfl, rfl, rfl, rfl, trivial⟩ trivial
    · have H := bf h H
      refine wkd ?_
      obtain ⟨r0, Hd, rfl⟩ := dnE H
      refine iq_e (fun hq => ?_)
      have H := Hd.trans (congrArg some hq)
      refine wkd ?_
      cases H
      exact fin_ret (.cons (.tmp rfl) .nil) rfl rfl rfl
def leqSignal (a0 : TSignal) (a1 : TSignal) : Option Bool :=
  bif !eqB a0.Kind a1.Kind then (some false) else (bif !eqB a0.Cell a1.Cell then (some false) else (bif !eqB a0.Generation a1.Generation then (some false) else (bif !eqB a0.Epoch a1.Epoch then (some false) else (bif !eqB a0.Number a1.Number then (some false) else (Option.bind (leqAuthVector a0.Vector a1.Vector) fun r1 => bif !r1 then (some false) else (bif !eqB a0.MAC a1.MAC then (some false) else (some true)))))))
theorem leqSignal_c {a0 : TSignal} {a1 : TSignal} {r : Bool} (H : leqSignal a0 a1 = some r) : Fn Tryz.prog 220 [.agg (eTSignal a0), .agg (eTSignal a1)] [.c (.d (.b r))] := by
  refine fn_in Tryz.func220 rfl (by kernel_rfl) Tryz.ntmps220 rfl rfl rfl ?_
  refine wk ?_
  refine awc_cond rfl (fun h => ?_) (fun h => ?_)
  · have H := bt h H
    refine wk ?_
    cases H
    exact fin_ret (.cons (.tmp rfl) .nil) rfl rfl rfl
  · have H := bf h H
    refine wk ?_
    refine awc_cond rfl (fun h => ?_) (fun h => ?_)
    · have H := bt h H
      refine wk ?_
      cases H
      exact fin_ret (.cons (.tmp rfl) .nil) rfl rfl rfl
    · have H := bf h H
      refine wk ?_
      refine awc_cond rfl (fun h => ?_) (fun h => ?_)
      · have H := bt h H
        refine wk ?_
        cases H
        exact fin_ret (.cons (.tmp rfl) .nil) rfl rfl rfl
      · have H := bf h H
        refine wk ?_
        refine awc_cond rfl (fun h => ?_) (fun h => ?_)
        · have H := bt h H
          refine wk ?_
          cases H
          exact fin_ret (.cons (.tmp rfl) .nil) rfl rfl rfl
        · have H := bf h H
          refine wk ?_
          refine awc_cond rfl (fun h => ?_) (fun h => ?_)
          · have H := bt h H
            refine wk ?_
            cases H
            exact fin_ret (.cons (.tmp rfl) .nil) rfl rfl rfl
          · have H := bf h H
            refine wk ?_
            obtain ⟨r1, hr1, H⟩ := ob H
            refine awr_n rfl (ca rfl rfl rfl (leqAuthVector_c hr1) trivial rfl rfl rfl rfl) ?_
            refine wk ?_
            refine awc_cond rfl (fun h => ?_) (fun h => ?_)
            · have H := bt h H
              refine wk ?_
              cases H
              exact fin_ret (.cons (.tmp rfl) .nil) rfl rfl rfl
            · have H := bf h H
              refine wk ?_
              refine awc_cond rfl (fun h => ?_) (fun h => ?_)
              · have H := bt h H
                refine wk ?_
                cases H
                exact fin_ret (.cons (.tmp rfl) .nil) rfl rfl rfl
              · have H := bf h H
                refine wk ?_
                cases H
                exact fin_ret (.cons (.tmp rfl) .nil) rfl rfl rfl
def leqSecuredMessage (a0 : TSecuredMessage) (a1 : TSecuredMessage) : Option Bool :=
  bif !eqB a0.Direction a1.Direction then (some false) else (bif !eqB a0.Count a1.Count then (some false) else (Option.bind (leqByteS a0.Data a1.Data) fun r1 => bif !r1 then (some false) else (bif !eqB a0.MAC a1.MAC then (some false) else (some true))))
theorem leqSecuredMessage_c {a0 : TSecuredMessage} {a1 : TSecuredMessage} {r : Bool} (H : leqSecuredMessage a0 a1 = some r) : Fn Tryz.prog 253 [.agg (eTSecuredMessage a0), .agg (eTSecuredMessage a1)] [.c (.d (.b r))] := by
  refine fn_in Tryz.func253 rfl (by kernel_rfl) Tryz.ntmps253 rfl rfl rfl ?_
  refine wk ?_
  refine awc_cond rfl (fun h => ?_) (fun h => ?_)
  · have H := bt h H
    refine wk ?_
    cases H
    exact fin_ret (.cons (.tmp rfl) .nil) rfl rfl rfl
  · have H := bf h H
    refine wk ?_
    refine awc_cond rfl (fun h => ?_) (fun h => ?_)
    · have H := bt h H
      refine wk ?_
      cases H
      exact fin_ret (.cons (.tmp rfl) .nil) rfl rfl rfl
    · have H := bf h H
      refine wk ?_
      obtain ⟨r1, hr1, H⟩ := ob H
      refine awr_n rfl (ca rfl rfl rfl (leqByteS_c hr1) trivial rfl rfl rfl rfl) ?_
      refine wk ?_
      refine awc_cond rfl (fun h => ?_) (fun h => ?_)
      · have H := bt h H
        refine wk ?_
        cases H
        exact fin_ret (.cons (.tmp rfl) .nil) rfl rfl rfl
      · have H := bf h H
        refine wk ?_
        refine awc_cond rfl (fun h => ?_) (fun h => ?_)
        · have H := bt h H
          refine wk ?_
          cases H
          exact fin_ret (.cons (.tmp rfl) .nil) rfl rfl rfl
        · have H := bf h H
          refine wk ?_
          cases H
          exact fin_ret (.cons (.tmp rfl) .nil) rfl rfl rfl
def leqRadioPacket (a0 : TRadioPacket) (a1 : TRadioPacket) : Option Bool :=
  bif !eqB a0.Generation a1.Generation then (some false) else (bif !eqB a0.Epoch a1.Epoch then (some false) else (Option.bind (leqSecuredMessage a0.Message a1.Message) fun r1 => bif !r1 then (some false) else (some true)))
theorem leqRadioPacket_c {a0 : TRadioPacket} {a1 : TRadioPacket} {r : Bool} (H : leqRadioPacket a0 a1 = some r) : Fn Tryz.prog 221 [.agg (eTRadioPacket a0), .agg (eTRadioPacket a1)] [.c (.d (.b r))] := by
  refine fn_in Tryz.func221 rfl (by kernel_rfl) Tryz.ntmps221 rfl rfl rfl ?_
  refine wk ?_
  refine awc_cond rfl (fun h => ?_) (fun h => ?_)
  · have H := bt h H
    refine wk ?_
    cases H
    exact fin_ret (.cons (.tmp rfl) .nil) rfl rfl rfl
  · have H := bf h H
    refine wk ?_
    refine awc_cond rfl (fun h => ?_) (fun h => ?_)
    · have H := bt h H
      refine wk ?_
      cases H
      exact fin_ret (.cons (.tmp rfl) .nil) rfl rfl rfl
    · have H := bf h H
      refine wk ?_
      obtain ⟨r1, hr1, H⟩ := ob H
      refine awr_n rfl (ca rfl rfl rfl (leqSecuredMessage_c hr1) trivial rfl rfl rfl rfl) ?_
      refine wk ?_
      refine awc_cond rfl (fun h => ?_) (fun h => ?_)
      · have H := bt h H
        refine wk ?_
        cases H
        exact fin_ret (.cons (.tmp rfl) .nil) rfl rfl rfl
      · have H := bf h H
        refine wk ?_
        cases H
        exact fin_ret (.cons (.tmp rfl) .nil) rfl rfl rfl
def leqFlight (a0 : TFlight) (a1 : TFlight) : Option Bool :=
  bif !eqB a0.Device a1.Device then (some false) else (bif !(booB a0.Uplink a1.Uplink) then (some false) else (bif !(booB a0.IsRadio a1.IsRadio) then (some false) else (bif !eqB a0.Cell a1.Cell then (some false) else (Option.bind (leqSignal a0.Signal a1.Signal) fun r1 => bif !r1 then (some false) else (Option.bind (leqRadioPacket a0.Radio a1.Radio) fun r2 => bif !r2 then (some false) else (some true))))))
theorem leqFlight_c {a0 : TFlight} {a1 : TFlight} {r : Bool} (H : leqFlight a0 a1 = some r) : Fn Tryz.prog 143 [.agg (eTFlight a0), .agg (eTFlight a1)] [.c (.d (.b r))] := by
  refine fn_in Tryz.func143 rfl (by kernel_rfl) Tryz.ntmps143 rfl rfl rfl ?_
  refine wk ?_
  refine awc_cond rfl (fun h => ?_) (fun h => ?_)
  · have H := bt h H
    refine wk ?_
    cases H
    exact fin_ret (.cons (.tmp rfl) .nil) rfl rfl rfl
  · have H := bf h H
    refine wk ?_
    refine awc_cond rfl (fun h => ?_) (fun h => ?_)
    · have H := bt h H
      refine wk ?_
      cases H
      exact fin_ret (.cons (.tmp rfl) .nil) rfl rfl rfl
    · have H := bf h H
      refine wk ?_
      refine awc_cond rfl (fun h => ?_) (fun h => ?_)
      · have H := bt h H
        refine wk ?_
        cases H
        exact fin_ret (.cons (.tmp rfl) .nil) rfl rfl rfl
      · have H := bf h H
        refine wk ?_
        refine awc_cond rfl (fun h => ?_) (fun h => ?_)
        · have H := bt h H
          refine wk ?_
          cases H
          exact fin_ret (.cons (.tmp rfl) .nil) rfl rfl rfl
        · have H := bf h H
          refine wk ?_
          obtain ⟨r1, hr1, H⟩ := ob H
          refine awr_n rfl (ca rfl rfl rfl (leqSignal_c hr1) trivial rfl rfl rfl rfl) ?_
          refine wk ?_
          refine awc_cond rfl (fun h => ?_) (fun h => ?_)
          · have H := bt h H
            refine wk ?_
            cases H
            exact fin_ret (.cons (.tmp rfl) .nil) rfl rfl rfl
          · have H := bf h H
            refine wk ?_
            obtain ⟨r2, hr2, H⟩ := ob H
            refine awr_n rfl (ca rfl rfl rfl (leqRadioPacket_c hr2) trivial rfl rfl rfl rfl) ?_
            refine wk ?_
            refine awc_cond rfl (fun h => ?_) (fun h => ?_)
            · have H := bt h H
              refine wk ?_
              cases H
              exact fin_ret (.cons (.tmp rfl) .nil) rfl rfl rfl
            · have H := bf h H
              refine wk ?_
              cases H
              exact fin_ret (.cons (.tmp rfl) .nil) rfl rfl rfl
def leqFlightS_L1 (a0 : List TFlight) (a1 : List TFlight) : Int → Option (Step (Int) (Bool))
  | v1 => bif ltB v1 ((a0.length : Nat) : Int) then (Option.bind (ix a0 v1) fun x2 => Option.bind (ix a1 v1) fun x3 => Option.bind (leqFlight x2 x3) fun r4 => bif !r4 then (dn (some false)) else (some (.next (WR (v1 + 1))))) else (dn (some true))
def leqFlightS (a0 : List TFlight) (a1 : List TFlight) : Option Bool :=
  bif !eqB ((a0.length : Nat) : Int) ((a1.length : Nat) : Int) then (some false) else (iter (leqFlightS_L1 a0 a1) FU 0)
theorem leqFlightS_c {a0 : List TFlight} {a1 : List TFlight} {r : Bool} (H : leqFlightS a0 a1 = some r) : Fn Tryz.prog 79 [aL (a0.map eTFlight), aL (a1.map eTFlight)] [.c (.d (.b r))] := by
  refine fn_in Tryz.func79 rfl (by kernel_rfl) Tryz.ntmps79 rfl rfl rfl ?_
  refine wkd ?_
  refine awc_cond rfl (fun h => ?_) (fun h => ?_)
  · have H := bt h H
    refine wkd ?_
    cases H
    exact fin_ret (.cons (.tmp rfl) .nil) rfl rfl rfl
  · have H := bf h H
    refine wkd ?_
    refine awc_iter (fun (q : Int) => ⟨[(0, .v (.c (.d false (.l (a0.map eTFlight))))), (1, .v (.c (.d false (.l (a1.map eTFlight))))), (5, tI q)], [], 0⟩) H (weak_of ⟨rfl, rfl, rfl, rfl, rfl, rfl, trivial⟩ trivial) ?_
    rintro v1 o H
    try dsimp only
    refine wkd ?_
    refine awc_cond rfl (fun h => ?_) (fun h => ?_)
    · have H := bt h H
      refine wkd ?_
      obtain ⟨x2, hx2, H⟩ := ob H
      refine dr_n rfl (xdT (enc := eTFlight) hx2 (fun _ => rfl) rfl rfl rfl) ?_
      refine wkd ?_
      obtain ⟨x3, hx3, H⟩ := ob H
      refine dr_n rfl (xdT (enc := eTFlight) hx3 (fun _ => rfl) rfl rfl rfl) ?_
      refine wkd ?_
      obtain ⟨r4, hr4, H⟩ := ob H
      refine dr_n rfl (ca rfl rfl rfl (leqFlight_c hr4) trivial rfl rfl rfl rfl) ?_
      refine wkd ?_
      refine awc_cond rfl (fun h => ?_) (fun h => ?_)
      · have H := bt h H
        refine wkd ?_
        obtain ⟨r0, Hd, rfl⟩ := dnE H
        refine iq_r (fun hq => ?_)
        have H := Hd.trans (congrArg some hq)
        refine wkd ?_
        cases H
        exact fin_ret (.cons (.tmp rfl) .nil) rfl rfl rfl
      · have H := bf h H
        refine wkd ?_
        cases H
        refine iq_n ?_
        exact weak_of ⟨rfl, rfl, rfl, rfl, rfl, rfl, trivial⟩ trivial
    · have H := bf h H
      refine wkd ?_
      obtain ⟨r0, Hd, rfl⟩ := dnE H
      refine iq_e (fun hq => ?_)
      have H := Hd.trans (congrArg some hq)
      refine wkd ?_
      cases H
      exact fin_ret (.cons (.tmp rfl) .nil) rfl rfl rfl
def leqServerPool (a0 : TServerPool) (a1 : TServerPool) : Option Bool :=
  bif !eqB a0.Size a1.Size then (some false) else (bif !eqB a0.UpMask a1.UpMask then (some false) else (some true))
theorem leqServerPool_c {a0 : TServerPool} {a1 : TServerPool} {r : Bool} (H : leqServerPool a0 a1 = some r) : Fn Tryz.prog 80 [.agg (eTServerPool a0), .agg (eTServerPool a1)] [.c (.d (.b r))] := by
  refine fn_in Tryz.func80 rfl (by kernel_rfl) Tryz.ntmps80 rfl rfl rfl ?_
  refine wk ?_
  refine awc_cond rfl (fun h => ?_) (fun h => ?_)
  · have H := bt h H
    refine wk ?_
    cases H
    exact fin_ret (.cons (.tmp rfl) .nil) rfl rfl rfl
  · have H := bf h H
    refine wk ?_
    refine awc_cond rfl (fun h => ?_) (fun h => ?_)
    · have H := bt h H
      refine wk ?_
      cases H
      exact fin_ret (.cons (.tmp rfl) .nil) rfl rfl rfl
    · have H := bf h H
      refine wk ?_
      cases H
      exact fin_ret (.cons (.tmp rfl) .nil) rfl rfl rfl
def leqNetwork (a0 : TNetwork) (a1 : TNetwork) : Option Bool :=
  Option.bind (leqCellMap a0.Map a1.Map) fun r1 => bif !r1 then (some false) else (Option.bind (leqDeviceS a0.Devices a1.Devices) fun r2 => bif !r2 then (some false) else (Option.bind (leqSessionS a0.Sessions a1.Sessions) fun r3 => bif !r3 then (some false) else (Option.bind (leqAccountS a0.Accounts a1.Accounts) fun r4 => bif !r4 then (some false) else (Option.bind (leqFlightS a0.Flights a1.Flights) fun r5 => bif !r5 then (some false) else (bif !eqB a0.DownCells a1.DownCells then (some false) else (Option.bind (leqServerPool a0.Core a1.Core) fun r6 => bif !r6 then (some false) else (bif !eqB a0.Now a1.Now then (some false) else (bif !eqB a0.Lost a1.Lost then (some false) else (some true)))))))))
theorem leqNetwork_c {a0 : TNetwork} {a1 : TNetwork} {r : Bool} (H : leqNetwork a0 a1 = some r) : Fn Tryz.prog 20 [.agg (eTNetwork a0), .agg (eTNetwork a1)] [.c (.d (.b r))] := by
  refine fn_in Tryz.func20 rfl (by kernel_rfl) Tryz.ntmps20 rfl rfl rfl ?_
  refine wk ?_
  obtain ⟨r1, hr1, H⟩ := ob H
  refine awr_n rfl (ca rfl rfl rfl (leqCellMap_c hr1) trivial rfl rfl rfl rfl) ?_
  refine wk ?_
  refine awc_cond rfl (fun h => ?_) (fun h => ?_)
  · have H := bt h H
    refine wk ?_
    cases H
    exact fin_ret (.cons (.tmp rfl) .nil) rfl rfl rfl
  · have H := bf h H
    refine wk ?_
    obtain ⟨r2, hr2, H⟩ := ob H
    refine awr_n rfl (ca rfl rfl rfl (leqDeviceS_c hr2) trivial rfl rfl rfl rfl) ?_
    refine wk ?_
    refine awc_cond rfl (fun h => ?_) (fun h => ?_)
    · have H := bt h H
      refine wk ?_
      cases H
      exact fin_ret (.cons (.tmp rfl) .nil) rfl rfl rfl
    · have H := bf h H
      refine wk ?_
      obtain ⟨r3, hr3, H⟩ := ob H
      refine awr_n rfl (ca rfl rfl rfl (leqSessionS_c hr3) trivial rfl rfl rfl rfl) ?_
      refine wk ?_
      refine awc_cond rfl (fun h => ?_) (fun h => ?_)
      · have H := bt h H
        refine wk ?_
        cases H
        exact fin_ret (.cons (.tmp rfl) .nil) rfl rfl rfl
      · have H := bf h H
        refine wk ?_
        obtain ⟨r4, hr4, H⟩ := ob H
        refine awr_n rfl (ca rfl rfl rfl (leqAccountS_c hr4) trivial rfl rfl rfl rfl) ?_
        refine wk ?_
        refine awc_cond rfl (fun h => ?_) (fun h => ?_)
        · have H := bt h H
          refine wk ?_
          cases H
          exact fin_ret (.cons (.tmp rfl) .nil) rfl rfl rfl
        · have H := bf h H
          refine wk ?_
          obtain ⟨r5, hr5, H⟩ := ob H
          refine awr_n rfl (ca rfl rfl rfl (leqFlightS_c hr5) trivial rfl rfl rfl rfl) ?_
          refine wk ?_
          refine awc_cond rfl (fun h => ?_) (fun h => ?_)
          · have H := bt h H
            refine wk ?_
            cases H
            exact fin_ret (.cons (.tmp rfl) .nil) rfl rfl rfl
          · have H := bf h H
            refine wk ?_
            refine awc_cond rfl (fun h => ?_) (fun h => ?_)
            · have H := bt h H
              refine wk ?_
              cases H
              exact fin_ret (.cons (.tmp rfl) .nil) rfl rfl rfl
            · have H := bf h H
              refine wk ?_
              obtain ⟨r6, hr6, H⟩ := ob H
              refine awr_n rfl (ca rfl rfl rfl (leqServerPool_c hr6) trivial rfl rfl rfl rfl) ?_
              refine wk ?_
              refine awc_cond rfl (fun h => ?_) (fun h => ?_)
              · have H := bt h H
                refine wk ?_
                cases H
                exact fin_ret (.cons (.tmp rfl) .nil) rfl rfl rfl
              · have H := bf h H
                refine wk ?_
                refine awc_cond rfl (fun h => ?_) (fun h => ?_)
                · have H := bt h H
                  refine wk ?_
                  cases H
                  exact fin_ret (.cons (.tmp rfl) .nil) rfl rfl rfl
                · have H := bf h H
                  refine wk ?_
                  refine awc_cond rfl (fun h => ?_) (fun h => ?_)
                  · have H := bt h H
                    refine wk ?_
                    cases H
                    exact fin_ret (.cons (.tmp rfl) .nil) rfl rfl rfl
                  · have H := bf h H
                    refine wk ?_
                    cases H
                    exact fin_ret (.cons (.tmp rfl) .nil) rfl rfl rfl
def leqKeyPath (a0 : TKeyPath) (a1 : TKeyPath) : Option Bool :=
  Option.bind (leqIntS a0.Steps a1.Steps) fun r1 => bif !r1 then (some false) else (some true)
theorem leqKeyPath_c {a0 : TKeyPath} {a1 : TKeyPath} {r : Bool} (H : leqKeyPath a0 a1 = some r) : Fn Tryz.prog 144 [.agg (eTKeyPath a0), .agg (eTKeyPath a1)] [.c (.d (.b r))] := by
  refine fn_in Tryz.func144 rfl (by kernel_rfl) Tryz.ntmps144 rfl rfl rfl ?_
  refine wk ?_
  obtain ⟨r1, hr1, H⟩ := ob H
  refine awr_n rfl (ca rfl rfl rfl (leqIntS_c hr1) trivial rfl rfl rfl rfl) ?_
  refine wk ?_
  refine awc_cond rfl (fun h => ?_) (fun h => ?_)
  · have H := bt h H
    refine wk ?_
    cases H
    exact fin_ret (.cons (.tmp rfl) .nil) rfl rfl rfl
  · have H := bf h H
    refine wk ?_
    cases H
    exact fin_ret (.cons (.tmp rfl) .nil) rfl rfl rfl
def leqLeakedKey (a0 : TLeakedKey) (a1 : TLeakedKey) : Option Bool :=
  bif !eqB a0.Generation a1.Generation then (some false) else (Option.bind (leqKeyPath a0.Path a1.Path) fun r1 => bif !r1 then (some false) else (some true))
theorem leqLeakedKey_c {a0 : TLeakedKey} {a1 : TLeakedKey} {r : Bool} (H : leqLeakedKey a0 a1 = some r) : Fn Tryz.prog 81 [.agg (eTLeakedKey a0), .agg (eTLeakedKey a1)] [.c (.d (.b r))] := by
  refine fn_in Tryz.func81 rfl (by kernel_rfl) Tryz.ntmps81 rfl rfl rfl ?_
  refine wk ?_
  refine awc_cond rfl (fun h => ?_) (fun h => ?_)
  · have H := bt h H
    refine wk ?_
    cases H
    exact fin_ret (.cons (.tmp rfl) .nil) rfl rfl rfl
  · have H := bf h H
    refine wk ?_
    obtain ⟨r1, hr1, H⟩ := ob H
    refine awr_n rfl (ca rfl rfl rfl (leqKeyPath_c hr1) trivial rfl rfl rfl rfl) ?_
    refine wk ?_
    refine awc_cond rfl (fun h => ?_) (fun h => ?_)
    · have H := bt h H
      refine wk ?_
      cases H
      exact fin_ret (.cons (.tmp rfl) .nil) rfl rfl rfl
    · have H := bf h H
      refine wk ?_
      cases H
      exact fin_ret (.cons (.tmp rfl) .nil) rfl rfl rfl
def leqLeakedKeyS_L1 (a0 : List TLeakedKey) (a1 : List TLeakedKey) : Int → Option (Step (Int) (Bool))
  | v1 => bif ltB v1 ((a0.length : Nat) : Int) then (Option.bind (ix a0 v1) fun x2 => Option.bind (ix a1 v1) fun x3 => Option.bind (leqLeakedKey x2 x3) fun r4 => bif !r4 then (dn (some false)) else (some (.next (WR (v1 + 1))))) else (dn (some true))
def leqLeakedKeyS (a0 : List TLeakedKey) (a1 : List TLeakedKey) : Option Bool :=
  bif !eqB ((a0.length : Nat) : Int) ((a1.length : Nat) : Int) then (some false) else (iter (leqLeakedKeyS_L1 a0 a1) FU 0)
theorem leqLeakedKeyS_c {a0 : List TLeakedKey} {a1 : List TLeakedKey} {r : Bool} (H : leqLeakedKeyS a0 a1 = some r) : Fn Tryz.prog 21 [aL (a0.map eTLeakedKey), aL (a1.map eTLeakedKey)] [.c (.d (.b r))] := by
  refine fn_in Tryz.func21 rfl (by kernel_rfl) Tryz.ntmps21 rfl rfl rfl ?_
  refine wkd ?_
  refine awc_cond rfl (fun h => ?_) (fun h => ?_)
  · have H := bt h H
    refine wkd ?_
    cases H
    exact fin_ret (.cons (.tmp rfl) .nil) rfl rfl rfl
  · have H := bf h H
    refine wkd ?_
    refine awc_iter (fun (q : Int) => ⟨[(0, .v (.c (.d false (.l (a0.map eTLeakedKey))))), (1, .v (.c (.d false (.l (a1.map eTLeakedKey))))), (5, tI q)], [], 0⟩) H (weak_of ⟨rfl, rfl, rfl, rfl, rfl, rfl, trivial⟩ trivial) ?_
    rintro v1 o H
    try dsimp only
    refine wkd ?_
    refine awc_cond rfl (fun h => ?_) (fun h => ?_)
    · have H := bt h H
      refine wkd ?_
      obtain ⟨x2, hx2, H⟩ := ob H
      refine dr_n rfl (xdT (enc := eTLeakedKey) hx2 (fun _ => rfl) rfl rfl rfl) ?_
      refine wkd ?_
      obtain ⟨x3, hx3, H⟩ := ob H
      refine dr_n rfl (xdT (enc := eTLeakedKey) hx3 (fun _ => rfl) rfl rfl rfl) ?_
      refine wkd ?_
      obtain ⟨r4, hr4, H⟩ := ob H
      refine dr_n rfl (ca rfl rfl rfl (leqLeakedKey_c hr4) trivial rfl rfl rfl rfl) ?_
      refine wkd ?_
      refine awc_cond rfl (fun h => ?_) (fun h => ?_)
      · have H := bt h H
        refine wkd ?_
        obtain ⟨r0, Hd, rfl⟩ := dnE H
        refine iq_r (fun hq => ?_)
        have H := Hd.trans (congrArg some hq)
        refine wkd ?_
        cases H
        exact fin_ret (.cons (.tmp rfl) .nil) rfl rfl rfl
      · have H := bf h H
        refine wkd ?_
        cases H
        refine iq_n ?_
        exact weak_of ⟨rfl, rfl, rfl, rfl, rfl, rfl, trivial⟩ trivial
    · have H := bf h H
      refine wkd ?_
      obtain ⟨r0, Hd, rfl⟩ := dnE H
      refine iq_e (fun hq => ?_)
      have H := Hd.trans (congrArg some hq)
      refine wkd ?_
      cases H
      exact fin_ret (.cons (.tmp rfl) .nil) rfl rfl rfl
def lmarkIntS_z_L1 (a0 : List Int) : (Int × Int) → Option (Step (Int × Int) (Int))
  | (v1, v2) => bif ltB v2 ((a0.length : Nat) : Int) then (Option.bind (ix a0 v2) fun x5 => some (.next (WR (v1 + 1), WR (v2 + 1)))) else (some (.done v1))
def lmarkIntS_z (a0 : List Int) (a1 : Int) : Option Int :=
  Option.bind (iter (lmarkIntS_z_L1 a0) FU (a1, 0)) fun (v4 : Int) => some v4
theorem lmarkIntS_z_c {a0 : List Int} {a1 : Int} {r : Int} (H : lmarkIntS_z a0 a1 = some r) : FnM Tryz.prog 87 [.v (.c (.z (.l (a0.map eI)))), tI a1] r := by
  refine fn_inM Tryz.func87 rfl (by kernel_rfl) Tryz.ntmps87 rfl rfl rfl ?_
  refine wk ?_
  obtain ⟨v4, Hj, H⟩ := ob H
  refine awc_jblk ⟨[(1, tI v4)], [], 0⟩ ?_ ?_
  · refine wk ?_
    refine awc_iter (fun (q : Int × Int) => ⟨[(0, .v (.c (.z (.l (a0.map eI))))), (1, tI q.1), (5, tI q.2)], [], 0⟩) Hj (weak_of ⟨rfl, rfl, rfl, rfl, rfl, rfl, trivial⟩ trivial) ?_
    rintro ⟨v1, v2⟩ o H
    try dsimp only
    refine wk ?_
    refine awc_cond rfl (fun h => ?_) (fun h => ?_)
    · have H := bt h H
      refine wk ?_
      obtain ⟨x5, hx5, H⟩ := ob H
      refine awr_n rfl (xzT (enc := eI) hx5 (fun _ => rfl) rfl rfl rfl) ?_
      refine wk ?_
      cases H
      refine iq_n ?_
      exact weak_of ⟨rfl, rfl, rfl, rfl, rfl, rfl, trivial⟩ trivial
    · have H := bf h H
      refine wk ?_
      cases H
      refine iq_e (fun hq => ?_)
      cases hq
      refine wk ?_
      exact weak_of ⟨rfl, rfl, trivial⟩ trivial
  refine wk ?_
  cases H
  exact fin_ret (.cons (.tmp rfl) .nil) rfl rfl rfl
def lmarkIntS_L1  : (Int × Int × List Int) → Option (Step (Int × Int × List Int) (Int × List Int))
  | (v1, v2, v3) => bif ltB v2 ((v3.length : Nat) : Int) then (Option.bind (ix v3 v2) fun x7 => some (.next (WR (v1 + 1), WR (v2 + 1), (v3.set (v2).toNat v1)))) else (some (.done (v1, v3)))
def lmarkIntS (a0 : List Int) (a1 : Int) : Option (Int × List Int) :=
  Option.bind (iter (lmarkIntS_L1) FU (a1, 0, a0)) fun ((v5, v6) : Int × List Int) => some (v5, v6)
theorem lmarkIntS_c {a0 : List Int} {a1 : Int} {r : Int × List Int} (H : lmarkIntS a0 a1 = some r) : FnW Tryz.prog 87 (.row 3 1 (a0.map eI) false true) [.v (.c (.w 200 a0.length)), tI a1] (.row 3 1 (r.2.map eI) false true) [.c (.d (.i .i64 r.1))] := by
  refine fn_inW Tryz.func87 rfl (by kernel_rfl) Tryz.ntmps87 rfl rfl rfl rfl rfl ?_
  refine wk ?_
  obtain ⟨⟨v5, v6⟩, Hj, H⟩ := ob H
  refine awc_jblk ⟨[(1, tI v5)], [(200, .row 3 1 (v6.map eI) false true)], 210⟩ ?_ ?_
  · refine wk ?_
    refine awc_iter (fun (q : Int × Int × List Int) => ⟨[(0, .v (.c (.w 200 q.2.2.length))), (1, tI q.1), (5, tI q.2.1)], [(200, .row 3 1 (q.2.2.map eI) false true)], 210⟩) Hj (weak_of ⟨wn rfl (by first | rfl | simp), rfl, rfl, rfl, rfl, rfl, trivial⟩ ⟨rfl, ⟨rfl, rfl⟩, trivial⟩) ?_
    rintro ⟨v1, v2, v3⟩ o H
    try dsimp only
    refine wk ?_
    refine awc_cond rfl (fun h => ?_) (fun h => ?_)
    · have H := bt h H
      refine wk ?_
      obtain ⟨x7, hx7, H⟩ := ob H
      refine awr_n rfl (xwT hx7 (by first | rfl | simp) rfl rfl rfl) ?_
      refine wk ?_
      refine awr_step rfl (soT (enc := eI) (a' := v1) hx7 rfl rfl rfl rfl rfl rfl rfl) ?_
      refine wk ?_
      cases H
      refine iq_n ?_
      exact weak_of ⟨wn rfl (by first | rfl | simp), rfl, rfl, rfl, rfl, rfl, trivial⟩ ⟨rfl, ⟨rfl, rfl⟩, trivial⟩
    · have H := bf h H
      refine wk ?_
      cases H
      refine iq_e (fun hq => ?_)
      cases hq
      refine wk ?_
      exact weak_of ⟨rfl, rfl, trivial⟩ ⟨rfl, ⟨rfl, rfl⟩, trivial⟩
  refine wk ?_
  cases H
  exact fin_retW (.cons (.tmp rfl) .nil) rfl rfl rfl rfl (by first | rfl | simp)
def lmarkCellS_z_L1 (a0 : List TCell) : (Int × Int) → Option (Step (Int × Int) (Int))
  | (v1, v2) => bif ltB v2 ((a0.length : Nat) : Int) then (Option.bind (ix a0 v2) fun x7 => Option.bind (ix a0 v2) fun x8 => Option.bind (lmarkIntS_z x8.Neighbors (WR (v1 + 1))) fun r9 => some (.next (r9, WR (v2 + 1)))) else (some (.done v1))
def lmarkCellS_z (a0 : List TCell) (a1 : Int) : Option Int :=
  Option.bind (iter (lmarkCellS_z_L1 a0) FU (a1, 0)) fun (v6 : Int) => some v6
theorem lmarkCellS_z_c {a0 : List TCell} {a1 : Int} {r : Int} (H : lmarkCellS_z a0 a1 = some r) : FnM Tryz.prog 145 [.v (.c (.z (.l (a0.map eTCell)))), tI a1] r := by
  refine fn_inM Tryz.func145 rfl (by kernel_rfl) Tryz.ntmps145 rfl rfl rfl ?_
  refine wk ?_
  obtain ⟨v6, Hj, H⟩ := ob H
  refine awc_jblk ⟨[(1, tI v6)], [], 0⟩ ?_ ?_
  · refine wk ?_
    refine awc_iter (fun (q : Int × Int) => ⟨[(0, .v (.c (.z (.l (a0.map eTCell))))), (1, tI q.1), (5, tI q.2)], [], 0⟩) Hj (weak_of ⟨rfl, rfl, rfl, rfl, rfl, rfl, trivial⟩ trivial) ?_
    rintro ⟨v1, v2⟩ o H
    try dsimp only
    refine wk ?_
    refine awc_cond rfl (fun h => ?_) (fun h => ?_)
    · have H := bt h H
      refine wk ?_
      obtain ⟨x7, hx7, H⟩ := ob H
      refine awr_n rfl (xzT (enc := eTCell) hx7 (fun _ => rfl) rfl rfl rfl) ?_
      refine wk ?_
      obtain ⟨x8, hx8, H⟩ := ob H
      refine awr_n rfl (xzT (enc := eTCell) hx8 (fun _ => rfl) rfl rfl rfl) ?_
      refine wk ?_
      obtain ⟨r9, hr9, H⟩ := ob H
      refine awr_step rfl (cz rfl (lmarkIntS_z_c hr9) rfl rfl) ?_
      refine wk ?_
      cases H
      refine iq_n ?_
      exact weak_of ⟨rfl, rfl, rfl, rfl, rfl, rfl, trivial⟩ trivial
    · have H := bf h H
      refine wk ?_
      cases H
      refine iq_e (fun hq => ?_)
      cases hq
      refine wk ?_
      exact weak_of ⟨rfl, rfl, trivial⟩ trivial
  refine wk ?_
  cases H
  exact fin_ret (.cons (.tmp rfl) .nil) rfl rfl rfl
def lmarkCellMap_z (a0 : TCellMap) (a1 : Int) : Option Int :=
  Option.bind (lmarkCellS_z a0.Cells a1) fun r1 => some r1
theorem lmarkCellMap_z_c {a0 : TCellMap} {a1 : Int} {r : Int} (H : lmarkCellMap_z a0 a1 = some r) : FnM Tryz.prog 82 [.v (.agg [.z (.l (a0.Cells.map eTCell))]), tI a1] r := by
  refine fn_inM Tryz.func82 rfl (by kernel_rfl) Tryz.ntmps82 rfl rfl rfl ?_
  refine wk ?_
  obtain ⟨r1, hr1, H⟩ := ob H
  refine awr_step rfl (cz rfl (lmarkCellS_z_c hr1) rfl rfl) ?_
  refine wk ?_
  cases H
  exact fin_ret (.cons (.tmp rfl) .nil) rfl rfl rfl
def lmarkByteS_z_L1 (a0 : List Int) : (Int × Int) → Option (Step (Int × Int) (Int))
  | (v1, v2) => bif ltB v2 ((a0.length : Nat) : Int) then (Option.bind (ix a0 v2) fun x5 => some (.next (WR (v1 + 1), WR (v2 + 1)))) else (some (.done v1))
def lmarkByteS_z (a0 : List Int) (a1 : Int) : Option Int :=
  Option.bind (iter (lmarkByteS_z_L1 a0) FU (a1, 0)) fun (v4 : Int) => some v4
theorem lmarkByteS_z_c {a0 : List Int} {a1 : Int} {r : Int} (H : lmarkByteS_z a0 a1 = some r) : FnM Tryz.prog 24 [.v (.c (.z (.l (a0.map eU8)))), tI a1] r := by
  refine fn_inM Tryz.func24 rfl (by kernel_rfl) Tryz.ntmps24 rfl rfl rfl ?_
  refine wk ?_
  obtain ⟨v4, Hj, H⟩ := ob H
  refine awc_jblk ⟨[(1, tI v4)], [], 0⟩ ?_ ?_
  · refine wk ?_
    refine awc_iter (fun (q : Int × Int) => ⟨[(0, .v (.c (.z (.l (a0.map eU8))))), (1, tI q.1), (5, tI q.2)], [], 0⟩) Hj (weak_of ⟨rfl, rfl, rfl, rfl, rfl, rfl, trivial⟩ trivial) ?_
    rintro ⟨v1, v2⟩ o H
    try dsimp only
    refine wk ?_
    refine awc_cond rfl (fun h => ?_) (fun h => ?_)
    · have H := bt h H
      refine wk ?_
      obtain ⟨x5, hx5, H⟩ := ob H
      refine awr_n rfl (xzT (enc := eU8) hx5 (fun _ => rfl) rfl rfl rfl) ?_
      refine wk ?_
      cases H
      refine iq_n ?_
      exact weak_of ⟨rfl, rfl, rfl, rfl, rfl, rfl, trivial⟩ trivial
    · have H := bf h H
      refine wk ?_
      cases H
      refine iq_e (fun hq => ?_)
      cases hq
      refine wk ?_
      exact weak_of ⟨rfl, rfl, trivial⟩ trivial
  refine wk ?_
  cases H
  exact fin_ret (.cons (.tmp rfl) .nil) rfl rfl rfl
def lmarkByteS_L1  : (Int × Int × List Int) → Option (Step (Int × Int × List Int) (Int × List Int))
  | (v1, v2, v3) => bif ltB v2 ((v3.length : Nat) : Int) then (Option.bind (ix v3 v2) fun x7 => some (.next (WR (v1 + 1), WR (v2 + 1), (v3.set (v2).toNat (IntKind.u8.wrap (v1)))))) else (some (.done (v1, v3)))
def lmarkByteS (a0 : List Int) (a1 : Int) : Option (Int × List Int) :=
  Option.bind (iter (lmarkByteS_L1) FU (a1, 0, a0)) fun ((v5, v6) : Int × List Int) => some (v5, v6)
theorem lmarkByteS_c {a0 : List Int} {a1 : Int} {r : Int × List Int} (H : lmarkByteS a0 a1 = some r) : FnW Tryz.prog 24 (.row 5 1 (a0.map eU8) false true) [.v (.c (.w 200 a0.length)), tI a1] (.row 5 1 (r.2.map eU8) false true) [.c (.d (.i .i64 r.1))] := by
  refine fn_inW Tryz.func24 rfl (by kernel_rfl) Tryz.ntmps24 rfl rfl rfl rfl rfl ?_
  refine wk ?_
  obtain ⟨⟨v5, v6⟩, Hj, H⟩ := ob H
  refine awc_jblk ⟨[(1, tI v5)], [(200, .row 5 1 (v6.map eU8) false true)], 210⟩ ?_ ?_
  · refine wk ?_
    refine awc_iter (fun (q : Int × Int × List Int) => ⟨[(0, .v (.c (.w 200 q.2.2.length))), (1, tI q.1), (5, tI q.2.1)], [(200, .row 5 1 (q.2.2.map eU8) false true)], 210⟩) Hj (weak_of ⟨wn rfl (by first | rfl | simp), rfl, rfl, rfl, rfl, rfl, trivial⟩ ⟨rfl, ⟨rfl, rfl⟩, trivial⟩) ?_
    rintro ⟨v1, v2, v3⟩ o H
    try dsimp only
    refine wk ?_
    refine awc_cond rfl (fun h => ?_) (fun h => ?_)
    · have H := bt h H
      refine wk ?_
      obtain ⟨x7, hx7, H⟩ := ob H
      refine awr_n rfl (xwT hx7 (by first | rfl | simp) rfl rfl rfl) ?_
      refine wk ?_
      refine awr_step rfl (soT (enc := eU8) (a' := IntKind.u8.wrap (v1)) hx7 rfl rfl rfl rfl rfl rfl rfl) ?_
      refine wk ?_
      cases H
      refine iq_n ?_
      exact weak_of ⟨wn rfl (by first | rfl | simp), rfl, rfl, rfl, rfl, rfl, trivial⟩ ⟨rfl, ⟨rfl, rfl⟩, trivial⟩
    · have H := bf h H
      refine wk ?_
      cases H
      refine iq_e (fun hq => ?_)
      cases hq
      refine wk ?_
      exact weak_of ⟨rfl, rfl, trivial⟩ ⟨rfl, ⟨rfl, rfl⟩, trivial⟩
  refine wk ?_
  cases H
  exact fin_retW (.cons (.tmp rfl) .nil) rfl rfl rfl rfl (by first | rfl | simp)
def lmarkNumberedPacketS_z_L1 (a0 : List TNumberedPacket) : (Int × Int) → Option (Step (Int × Int) (Int))
  | (v1, v2) => bif ltB v2 ((a0.length : Nat) : Int) then (Option.bind (ix a0 v2) fun x7 => Option.bind (ix a0 v2) fun x8 => Option.bind (lmarkByteS_z x8.Data (WR (v1 + 1))) fun r9 => some (.next (r9, WR (v2 + 1)))) else (some (.done v1))
def lmarkNumberedPacketS_z (a0 : List TNumberedPacket) (a1 : Int) : Option Int :=
  Option.bind (iter (lmarkNumberedPacketS_z_L1 a0) FU (a1, 0)) fun (v6 : Int) => some v6
theorem lmarkNumberedPacketS_z_c {a0 : List TNumberedPacket} {a1 : Int} {r : Int} (H : lmarkNumberedPacketS_z a0 a1 = some r) : FnM Tryz.prog 146 [.v (.c (.z (.l (a0.map eTNumberedPacket)))), tI a1] r := by
  refine fn_inM Tryz.func146 rfl (by kernel_rfl) Tryz.ntmps146 rfl rfl rfl ?_
  refine wk ?_
  obtain ⟨v6, Hj, H⟩ := ob H
  refine awc_jblk ⟨[(1, tI v6)], [], 0⟩ ?_ ?_
  · refine wk ?_
    refine awc_iter (fun (q : Int × Int) => ⟨[(0, .v (.c (.z (.l (a0.map eTNumberedPacket))))), (1, tI q.1), (5, tI q.2)], [], 0⟩) Hj (weak_of ⟨rfl, rfl, rfl, rfl, rfl, rfl, trivial⟩ trivial) ?_
    rintro ⟨v1, v2⟩ o H
    try dsimp only
    refine wk ?_
    refine awc_cond rfl (fun h => ?_) (fun h => ?_)
    · have H := bt h H
      refine wk ?_
      obtain ⟨x7, hx7, H⟩ := ob H
      refine awr_n rfl (xzT (enc := eTNumberedPacket) hx7 (fun _ => rfl) rfl rfl rfl) ?_
      refine wk ?_
      obtain ⟨x8, hx8, H⟩ := ob H
      refine awr_n rfl (xzT (enc := eTNumberedPacket) hx8 (fun _ => rfl) rfl rfl rfl) ?_
      refine wk ?_
      obtain ⟨r9, hr9, H⟩ := ob H
      refine awr_step rfl (cz rfl (lmarkByteS_z_c hr9) rfl rfl) ?_
      refine wk ?_
      cases H
      refine iq_n ?_
      exact weak_of ⟨rfl, rfl, rfl, rfl, rfl, rfl, trivial⟩ trivial
    · have H := bf h H
      refine wk ?_
      cases H
      refine iq_e (fun hq => ?_)
      cases hq
      refine wk ?_
      exact weak_of ⟨rfl, rfl, trivial⟩ trivial
  refine wk ?_
  cases H
  exact fin_ret (.cons (.tmp rfl) .nil) rfl rfl rfl
def lmarkPayloadS_z_L1 (a0 : List TPayload) : (Int × Int) → Option (Step (Int × Int) (Int))
  | (v1, v2) => bif ltB v2 ((a0.length : Nat) : Int) then (Option.bind (ix a0 v2) fun x6 => Option.bind (lmarkByteS_z x6.Data v1) fun r7 => some (.next (r7, WR (v2 + 1)))) else (some (.done v1))
def lmarkPayloadS_z (a0 : List TPayload) (a1 : Int) : Option Int :=
  Option.bind (iter (lmarkPayloadS_z_L1 a0) FU (a1, 0)) fun (v5 : Int) => some v5
theorem lmarkPayloadS_z_c {a0 : List TPayload} {a1 : Int} {r : Int} (H : lmarkPayloadS_z a0 a1 = some r) : FnM Tryz.prog 147 [.v (.c (.z (.l (a0.map eTPayload)))), tI a1] r := by
  refine fn_inM Tryz.func147 rfl (by kernel_rfl) Tryz.ntmps147 rfl rfl rfl ?_
  refine wk ?_
  obtain ⟨v5, Hj, H⟩ := ob H
  refine awc_jblk ⟨[(1, tI v5)], [], 0⟩ ?_ ?_
  · refine wk ?_
    refine awc_iter (fun (q : Int × Int) => ⟨[(0, .v (.c (.z (.l (a0.map eTPayload))))), (1, tI q.1), (5, tI q.2)], [], 0⟩) Hj (weak_of ⟨rfl, rfl, rfl, rfl, rfl, rfl, trivial⟩ trivial) ?_
    rintro ⟨v1, v2⟩ o H
    try dsimp only
    refine wk ?_
    refine awc_cond rfl (fun h => ?_) (fun h => ?_)
    · have H := bt h H
      refine wk ?_
      obtain ⟨x6, hx6, H⟩ := ob H
      refine awr_n rfl (xzT (enc := eTPayload) hx6 (fun _ => rfl) rfl rfl rfl) ?_
      refine wk ?_
      obtain ⟨r7, hr7, H⟩ := ob H
      refine awr_step rfl (cz rfl (lmarkByteS_z_c hr7) rfl rfl) ?_
      refine wk ?_
      cases H
      refine iq_n ?_
      exact weak_of ⟨rfl, rfl, rfl, rfl, rfl, rfl, trivial⟩ trivial
    · have H := bf h H
      refine wk ?_
      cases H
      refine iq_e (fun hq => ?_)
      cases hq
      refine wk ?_
      exact weak_of ⟨rfl, rfl, trivial⟩ trivial
  refine wk ?_
  cases H
  exact fin_ret (.cons (.tmp rfl) .nil) rfl rfl rfl
def lmarkDeviceS_z_L1 (a0 : List TDevice) : (Int × Int) → Option (Step (Int × Int) (Int))
  | (v1, v2) => bif ltB v2 ((a0.length : Nat) : Int) then (Option.bind (ix a0 v2) fun x20 => Option.bind (ix a0 v2) fun x21 => Option.bind (ix a0 v2) fun x22 => Option.bind (ix a0 v2) fun x23 => Option.bind (ix a0 v2) fun x24 => Option.bind (ix a0 v2) fun x25 => Option.bind (ix a0 v2) fun x26 => Option.bind (ix a0 v2) fun x27 => Option.bind (ix a0 v2) fun x28 => Option.bind (ix a0 v2) fun x29 => Option.bind (ix a0 v2) fun x30 => Option.bind (ix a0 v2) fun x31 => Option.bind (ix a0 v2) fun x32 => Option.bind (lmarkNumberedPacketS_z x32.Receiver.Pending (WR ((WR ((WR ((WR ((WR ((WR ((WR ((WR ((WR ((WR ((WR ((WR (v1 + 1)) + 1)) + 1)) + 1)) + 1)) + 1)) + 1)) + 1)) + 1)) + 1)) + 1)) + 1))) fun r33 => Option.bind (ix a0 v2) fun x34 => Option.bind (lmarkPayloadS_z x34.Receiver.Delivered r33) fun r35 => some (.next (r35, WR (v2 + 1)))) else (some (.done v1))
def lmarkDeviceS_z (a0 : List TDevice) (a1 : Int) : Option Int :=
  Option.bind (iter (lmarkDeviceS_z_L1 a0) FU (a1, 0)) fun (v19 : Int) => some v19
theorem lmarkDeviceS_z_c {a0 : List TDevice} {a1 : Int} {r : Int} (H : lmarkDeviceS_z a0 a1 = some r) : FnM Tryz.prog 83 [.v (.c (.z (.l (a0.map eTDevice)))), tI a1] r := by
  refine fn_inM Tryz.func83 rfl (by kernel_rfl) Tryz.ntmps83 rfl rfl rfl ?_
  refine wk ?_
  obtain ⟨v19, Hj, H⟩ := ob H
  refine awc_jblk ⟨[(1, tI v19)], [], 0⟩ ?_ ?_
  · refine wk ?_
    refine awc_iter (fun (q : Int × Int) => ⟨[(0, .v (.c (.z (.l (a0.map eTDevice))))), (1, tI q.1), (5, tI q.2)], [], 0⟩) Hj (weak_of ⟨rfl, rfl, rfl, rfl, rfl, rfl, trivial⟩ trivial) ?_
    rintro ⟨v1, v2⟩ o H
    try dsimp only
    refine wk ?_
    refine awc_cond rfl (fun h => ?_) (fun h => ?_)
    · have H := bt h H
      refine wk ?_
      obtain ⟨x20, hx20, H⟩ := ob H
      refine awr_n rfl (xzT (enc := eTDevice) hx20 (fun _ => rfl) rfl rfl rfl) ?_
      refine wk ?_
      obtain ⟨x21, hx21, H⟩ := ob H
      refine awr_n rfl (xzT (enc := eTDevice) hx21 (fun _ => rfl) rfl rfl rfl) ?_
      refine wk ?_
      obtain ⟨x22, hx22, H⟩ := ob H
      refine awr_n rfl (xzT (enc := eTDevice) hx22 (fun _ => rfl) rfl rfl rfl) ?_
      refine wk ?_
      obtain ⟨x23, hx23, H⟩ := ob H
      refine awr_n rfl (xzT (enc := eTDevice) hx23 (fun _ => rfl) rfl rfl rfl) ?_
      refine wk ?_
      obtain ⟨x24, hx24, H⟩ := ob H
      refine awr_n rfl (xzT (enc := eTDevice) hx24 (fun _ => rfl) rfl rfl rfl) ?_
      refine wk ?_
      obtain ⟨x25, hx25, H⟩ := ob H
      refine awr_n rfl (xzT (enc := eTDevice) hx25 (fun _ => rfl) rfl rfl rfl) ?_
      refine wk ?_
      obtain ⟨x26, hx26, H⟩ := ob H
      refine awr_n rfl (xzT (enc := eTDevice) hx26 (fun _ => rfl) rfl rfl rfl) ?_
      refine wk ?_
      obtain ⟨x27, hx27, H⟩ := ob H
      refine awr_n rfl (xzT (enc := eTDevice) hx27 (fun _ => rfl) rfl rfl rfl) ?_
      refine wk ?_
      obtain ⟨x28, hx28, H⟩ := ob H
      refine awr_n rfl (xzT (enc := eTDevice) hx28 (fun _ => rfl) rfl rfl rfl) ?_
      refine wk ?_
      refine awr_n rfl (ir rfl rfl rfl (by decide)) ?_
      refine wk ?_
      obtain ⟨x29, hx29, H⟩ := ob H
      refine awr_n rfl (xzT (enc := eTDevice) hx29 (fun _ => rfl) rfl rfl rfl) ?_
      refine wk ?_
      obtain ⟨x30, hx30, H⟩ := ob H
      refine awr_n rfl (xzT (enc := eTDevice) hx30 (fun _ => rfl) rfl rfl rfl) ?_
      refine wk ?_
      obtain ⟨x31, hx31, H⟩ := ob H
      refine awr_n rfl (xzT (enc := eTDevice) hx31 (fun _ => rfl) rfl rfl rfl) ?_
      refine wk ?_
      obtain ⟨x32, hx32, H⟩ := ob H
      refine awr_n rfl (xzT (enc := eTDevice) hx32 (fun _ => rfl) rfl rfl rfl) ?_
      refine wk ?_
      obtain ⟨r33, hr33, H⟩ := ob H
      refine awr_step rfl (cz rfl (lmarkNumberedPacketS_z_c hr33) rfl rfl) ?_
      refine wk ?_
      obtain ⟨x34, hx34, H⟩ := ob H
      refine awr_n rfl (xzT (enc := eTDevice) hx34 (fun _ => rfl) rfl rfl rfl) ?_
      refine wk ?_
      obtain ⟨r35, hr35, H⟩ := ob H
      refine awr_step rfl (cz rfl (lmarkPayloadS_z_c hr35) rfl rfl) ?_
      refine wk ?_
      cases H
      refine iq_n ?_
      exact weak_of ⟨rfl, rfl, rfl, rfl, rfl, rfl, trivial⟩ trivial
    · have H := bf h H
      refine wk ?_
      cases H
      refine iq_e (fun hq => ?_)
      cases hq
      refine wk ?_
      exact weak_of ⟨rfl, rfl, trivial⟩ trivial
  refine wk ?_
  cases H
  exact fin_ret (.cons (.tmp rfl) .nil) rfl rfl rfl
def lmarkSessionS_z_L1 (a0 : List TSession) : (Int × Int) → Option (Step (Int × Int) (Int))
  | (v1, v2) => bif ltB v2 ((a0.length : Nat) : Int) then (Option.bind (ix a0 v2) fun x37 => Option.bind (ix a0 v2) fun x38 => Option.bind (ix a0 v2) fun x39 => Option.bind (ix a0 v2) fun x40 => Option.bind (ix a0 v2) fun x41 => Option.bind (ix a0 v2) fun x42 => Option.bind (ix a0 v2) fun x43 => Option.bind (ix a0 v2) fun x44 => Option.bind (lmarkIntS_z x44.Plan.RoamingNetworks (WR ((WR ((WR ((WR ((WR ((WR ((WR (v1 + 1)) + 1)) + 1)) + 1)) + 1)) + 1)) + 1))) fun r45 => Option.bind (ix a0 v2) fun x46 => Option.bind (ix a0 v2) fun x47 => Option.bind (ix a0 v2) fun x48 => Option.bind (ix a0 v2) fun x49 => Option.bind (ix a0 v2) fun x50 => Option.bind (ix a0 v2) fun x51 => Option.bind (ix a0 v2) fun x52 => Option.bind (ix a0 v2) fun x53 => Option.bind (ix a0 v2) fun x54 => Option.bind (ix a0 v2) fun x55 => Option.bind (ix a0 v2) fun x56 => Option.bind (ix a0 v2) fun x57 => Option.bind (ix a0 v2) fun x58 => Option.bind (ix a0 v2) fun x59 => Option.bind (ix a0 v2) fun x60 => Option.bind (ix a0 v2) fun x61 => Option.bind (lmarkPayloadS_z x61.Submitted (WR ((WR ((WR ((WR ((WR ((WR ((WR ((WR ((WR ((WR ((WR ((WR ((WR ((WR ((WR (r45 + 1)) + 1)) + 1)) + 1)) + 1)) + 1)) + 1)) + 1)) + 1)) + 1)) + 1)) + 1)) + 1)) + 1)) + 1))) fun r62 => Option.bind (ix a0 v2) fun x63 => Option.bind (ix a0 v2) fun x64 => Option.bind (lmarkNumberedPacketS_z x64.Window.Unacked (WR (r62 + 1))) fun r65 => Option.bind (ix a0 v2) fun x66 => Option.bind (ix a0 v2) fun x67 => Option.bind (ix a0 v2) fun x68 => Option.bind (ix a0 v2) fun x69 => some (.next (WR ((WR ((WR ((WR (r65 + 1)) + 1)) + 1)) + 1), WR (v2 + 1)))) else (some (.done v1))
def lmarkSessionS_z (a0 : List TSession) (a1 : Int) : Option Int :=
  Option.bind (iter (lmarkSessionS_z_L1 a0) FU (a1, 0)) fun (v36 : Int) => some v36
theorem lmarkSessionS_z_c {a0 : List TSession} {a1 : Int} {r : Int} (H : lmarkSessionS_z a0 a1 = some r) : FnM Tryz.prog 84 [.v (.c (.z (.l (a0.map eTSession)))), tI a1] r := by
  refine fn_inM Tryz.func84 rfl (by kernel_rfl) Tryz.ntmps84 rfl rfl rfl ?_
  refine wk ?_
  obtain ⟨v36, Hj, H⟩ := ob H
  refine awc_jblk ⟨[(1, tI v36)], [], 0⟩ ?_ ?_
  · refine wk ?_
    refine awc_iter (fun (q : Int × Int) => ⟨[(0, .v (.c (.z (.l (a0.map eTSession))))), (1, tI q.1), (5, tI q.2)], [], 0⟩) Hj (weak_of ⟨rfl, rfl, rfl, rfl, rfl, rfl, trivial⟩ trivial) ?_
    rintro ⟨v1, v2⟩ o H
    try dsimp only
    refine wk ?_
    refine awc_cond rfl (fun h => ?_) (fun h => ?_)
    · have H := bt h H
      refine wk ?_
      obtain ⟨x37, hx37, H⟩ := ob H
      refine awr_n rfl (xzT (enc := eTSession) hx37 (fun _ => rfl) rfl rfl rfl) ?_
      refine wk ?_
      obtain ⟨x38, hx38, H⟩ := ob H
      refine awr_n rfl (xzT (enc := eTSession) hx38 (fun _ => rfl) rfl rfl rfl) ?_
      refine wk ?_
      obtain ⟨x39, hx39, H⟩ := ob H
      refine awr_n rfl (xzT (enc := eTSession) hx39 (fun _ => rfl) rfl rfl rfl) ?_
      refine wk ?_
      obtain ⟨x40, hx40, H⟩ := ob H
      refine awr_n rfl (xzT (enc := eTSession) hx40 (fun _ => rfl) rfl rfl rfl) ?_
      refine wk ?_
      obtain ⟨x41, hx41, H⟩ := ob H
      refine awr_n rfl (xzT (enc := eTSession) hx41 (fun _ => rfl) rfl rfl rfl) ?_
      refine wk ?_
      obtain ⟨x42, hx42, H⟩ := ob H
      refine awr_n rfl (xzT (enc := eTSession) hx42 (fun _ => rfl) rfl rfl rfl) ?_
      refine wk ?_
      obtain ⟨x43, hx43, H⟩ := ob H
      refine awr_n rfl (xzT (enc := eTSession) hx43 (fun _ => rfl) rfl rfl rfl) ?_
      refine wk ?_
      obtain ⟨x44, hx44, H⟩ := ob H
      refine awr_n rfl (xzT (enc := eTSession) hx44 (fun _ => rfl) rfl rfl rfl) ?_
      refine wk ?_
      obtain ⟨r45, hr45, H⟩ := ob H
      refine awr_step rfl (cz rfl (lmarkIntS_z_c hr45) rfl rfl) ?_
      refine wk ?_
      obtain ⟨x46, hx46, H⟩ := ob H
      refine awr_n rfl (xzT (enc := eTSession) hx46 (fun _ => rfl) rfl rfl rfl) ?_
      refine wk ?_
      obtain ⟨x47, hx47, H⟩ := ob H
      refine awr_n rfl (xzT (enc := eTSession) hx47 (fun _ => rfl) rfl rfl rfl) ?_
      refine wk ?_
      obtain ⟨x48, hx48, H⟩ := ob H
      refine awr_n rfl (xzT (enc := eTSession) hx48 (fun _ => rfl) rfl rfl rfl) ?_
      refine wk ?_
      obtain ⟨x49, hx49, H⟩ := ob H
      refine awr_n rfl (xzT (enc := eTSession) hx49 (fun _ => rfl) rfl rfl rfl) ?_
      refine wk ?_
      obtain ⟨x50, hx50, H⟩ := ob H
      refine awr_n rfl (xzT (enc := eTSession) hx50 (fun _ => rfl) rfl rfl rfl) ?_
      refine wk ?_
      obtain ⟨x51, hx51, H⟩ := ob H
      refine awr_n rfl (xzT (enc := eTSession) hx51 (fun _ => rfl) rfl rfl rfl) ?_
      refine wk ?_
      obtain ⟨x52, hx52, H⟩ := ob H
      refine awr_n rfl (xzT (enc := eTSession) hx52 (fun _ => rfl) rfl rfl rfl) ?_
      refine wk ?_
      obtain ⟨x53, hx53, H⟩ := ob H
      refine awr_n rfl (xzT (enc := eTSession) hx53 (fun _ => rfl) rfl rfl rfl) ?_
      refine wk ?_
      obtain ⟨x54, hx54, H⟩ := ob H
      refine awr_n rfl (xzT (enc := eTSession) hx54 (fun _ => rfl) rfl rfl rfl) ?_
      refine wk ?_
      obtain ⟨x55, hx55, H⟩ := ob H
      refine awr_n rfl (xzT (enc := eTSession) hx55 (fun _ => rfl) rfl rfl rfl) ?_
      refine wk ?_
      obtain ⟨x56, hx56, H⟩ := ob H
      refine awr_n rfl (xzT (enc := eTSession) hx56 (fun _ => rfl) rfl rfl rfl) ?_
      refine wk ?_
      obtain ⟨x57, hx57, H⟩ := ob H
      refine awr_n rfl (xzT (enc := eTSession) hx57 (fun _ => rfl) rfl rfl rfl) ?_
      refine wk ?_
      obtain ⟨x58, hx58, H⟩ := ob H
      refine awr_n rfl (xzT (enc := eTSession) hx58 (fun _ => rfl) rfl rfl rfl) ?_
      refine wk ?_
      obtain ⟨x59, hx59, H⟩ := ob H
      refine awr_n rfl (xzT (enc := eTSession) hx59 (fun _ => rfl) rfl rfl rfl) ?_
      refine wk ?_
      obtain ⟨x60, hx60, H⟩ := ob H
      refine awr_n rfl (xzT (enc := eTSession) hx60 (fun _ => rfl) rfl rfl rfl) ?_
      refine wk ?_
      obtain ⟨x61, hx61, H⟩ := ob H
      refine awr_n rfl (xzT (enc := eTSession) hx61 (fun _ => rfl) rfl rfl rfl) ?_
      refine wk ?_
      obtain ⟨r62, hr62, H⟩ := ob H
      refine awr_step rfl (cz rfl (lmarkPayloadS_z_c hr62) rfl rfl) ?_
      refine wk ?_
      obtain ⟨x63, hx63, H⟩ := ob H
      refine awr_n rfl (xzT (enc := eTSession) hx63 (fun _ => rfl) rfl rfl rfl) ?_
      refine wk ?_
      obtain ⟨x64, hx64, H⟩ := ob H
      refine awr_n rfl (xzT (enc := eTSession) hx64 (fun _ => rfl) rfl rfl rfl) ?_
      refine wk ?_
      obtain ⟨r65, hr65, H⟩ := ob H
      refine awr_step rfl (cz rfl (lmarkNumberedPacketS_z_c hr65) rfl rfl) ?_
      refine wk ?_
      obtain ⟨x66, hx66, H⟩ := ob H
      refine awr_n rfl (xzT (enc := eTSession) hx66 (fun _ => rfl) rfl rfl rfl) ?_
      refine wk ?_
      obtain ⟨x67, hx67, H⟩ := ob H
      refine awr_n rfl (xzT (enc := eTSession) hx67 (fun _ => rfl) rfl rfl rfl) ?_
      refine wk ?_
      obtain ⟨x68, hx68, H⟩ := ob H
      refine awr_n rfl (xzT (enc := eTSession) hx68 (fun _ => rfl) rfl rfl rfl) ?_
      refine wk ?_
      obtain ⟨x69, hx69, H⟩ := ob H
      refine awr_n rfl (xzT (enc := eTSession) hx69 (fun _ => rfl) rfl rfl rfl) ?_
      refine wk ?_
      cases H
      refine iq_n ?_
      exact weak_of ⟨rfl, rfl, rfl, rfl, rfl, rfl, trivial⟩ trivial
    · have H := bf h H
      refine wk ?_
      cases H
      refine iq_e (fun hq => ?_)
      cases hq
      refine wk ?_
      exact weak_of ⟨rfl, rfl, trivial⟩ trivial
  refine wk ?_
  cases H
  exact fin_ret (.cons (.tmp rfl) .nil) rfl rfl rfl
def lmarkReservationS_z_L1 (a0 : List TReservation) : (Int × Int) → Option (Step (Int × Int) (Int))
  | (v1, v2) => bif ltB v2 ((a0.length : Nat) : Int) then (Option.bind (ix a0 v2) fun x6 => Option.bind (ix a0 v2) fun x7 => some (.next (WR ((WR (v1 + 1)) + 1), WR (v2 + 1)))) else (some (.done v1))
def lmarkReservationS_z (a0 : List TReservation) (a1 : Int) : Option Int :=
  Option.bind (iter (lmarkReservationS_z_L1 a0) FU (a1, 0)) fun (v5 : Int) => some v5
theorem lmarkReservationS_z_c {a0 : List TReservation} {a1 : Int} {r : Int} (H : lmarkReservationS_z a0 a1 = some r) : FnM Tryz.prog 148 [.v (.c (.z (.l (a0.map eTReservation)))), tI a1] r := by
  refine fn_inM Tryz.func148 rfl (by kernel_rfl) Tryz.ntmps148 rfl rfl rfl ?_
  refine wk ?_
  obtain ⟨v5, Hj, H⟩ := ob H
  refine awc_jblk ⟨[(1, tI v5)], [], 0⟩ ?_ ?_
  · refine wk ?_
    refine awc_iter (fun (q : Int × Int) => ⟨[(0, .v (.c (.z (.l (a0.map eTReservation))))), (1, tI q.1), (5, tI q.2)], [], 0⟩) Hj (weak_of ⟨rfl, rfl, rfl, rfl, rfl, rfl, trivial⟩ trivial) ?_
    rintro ⟨v1, v2⟩ o H
    try dsimp only
    refine wk ?_
    refine awc_cond rfl (fun h => ?_) (fun h => ?_)
    · have H := bt h H
      refine wk ?_
      obtain ⟨x6, hx6, H⟩ := ob H
      refine awr_n rfl (xzT (enc := eTReservation) hx6 (fun _ => rfl) rfl rfl rfl) ?_
      refine wk ?_
      obtain ⟨x7, hx7, H⟩ := ob H
      refine awr_n rfl (xzT (enc := eTReservation) hx7 (fun _ => rfl) rfl rfl rfl) ?_
      refine wk ?_
      cases H
      refine iq_n ?_
      exact weak_of ⟨rfl, rfl, rfl, rfl, rfl, rfl, trivial⟩ trivial
    · have H := bf h H
      refine wk ?_
      cases H
      refine iq_e (fun hq => ?_)
      cases hq
      refine wk ?_
      exact weak_of ⟨rfl, rfl, trivial⟩ trivial
  refine wk ?_
  cases H
  exact fin_ret (.cons (.tmp rfl) .nil) rfl rfl rfl
def lmarkReservationS_L1  : (Int × Int × List TReservation) → Option (Step (Int × Int × List TReservation) (Int × List TReservation))
  | (v1, v2, v3) => bif ltB v2 ((v3.length : Nat) : Int) then (Option.bind (ix v3 v2) fun x8 => Option.bind (ix (v3.set (v2).toNat (⟨v1, x8.Amount⟩ : TReservation)) v2) fun x9 => some (.next (WR ((WR (v1 + 1)) + 1), WR (v2 + 1), ((v3.set (v2).toNat (⟨v1, x8.Amount⟩ : TReservation)).set (v2).toNat (⟨x9.SessionID, WR (v1 + 1)⟩ : TReservation))))) else (some (.done (v1, v3)))
def lmarkReservationS (a0 : List TReservation) (a1 : Int) : Option (Int × List TReservation) :=
  Option.bind (iter (lmarkReservationS_L1) FU (a1, 0, a0)) fun ((v6, v7) : Int × List TReservation) => some (v6, v7)
theorem lmarkReservationS_c {a0 : List TReservation} {a1 : Int} {r : Int × List TReservation} (H : lmarkReservationS a0 a1 = some r) : FnW Tryz.prog 148 (.row 249 2 (a0.map eTReservation) false true) [.v (.c (.w 200 a0.length)), tI a1] (.row 249 2 (r.2.map eTReservation) false true) [.c (.d (.i .i64 r.1))] := by
  refine fn_inW Tryz.func148 rfl (by kernel_rfl) Tryz.ntmps148 rfl rfl rfl rfl rfl ?_
  refine wk ?_
  obtain ⟨⟨v6, v7⟩, Hj, H⟩ := ob H
  refine awc_jblk ⟨[(1, tI v6)], [(200, .row 249 2 (v7.map eTReservation) false true)], 210⟩ ?_ ?_
  · refine wk ?_
    refine awc_iter (fun (q : Int × Int × List TReservation) => ⟨[(0, .v (.c (.w 200 q.2.2.length))), (1, tI q.1), (5, tI q.2.1)], [(200, .row 249 2 (q.2.2.map eTReservation) false true)], 210⟩) Hj (weak_of ⟨wn rfl (by first | rfl | simp), rfl, rfl, rfl, rfl, rfl, trivial⟩ ⟨rfl, ⟨rfl, rfl⟩, trivial⟩) ?_
    rintro ⟨v1, v2, v3⟩ o H
    try dsimp only
    refine wk ?_
    refine awc_cond rfl (fun h => ?_) (fun h => ?_)
    · have H := bt h H
      refine wk ?_
      obtain ⟨x8, hx8, H⟩ := ob H
      refine awr_n rfl (xwT hx8 (by first | rfl | simp) rfl rfl rfl) ?_
      refine wk ?_
      refine awr_step rfl (soT (enc := eTReservation) (a' := (⟨v1, x8.Amount⟩ : TReservation)) hx8 rfl rfl rfl rfl rfl rfl rfl) ?_
      refine wk ?_
      obtain ⟨x9, hx9, H⟩ := ob H
      refine awr_n rfl (xwT hx9 (by first | rfl | simp) rfl rfl rfl) ?_
      refine wk ?_
      refine awr_step rfl (soT (enc := eTReservation) (a' := (⟨x9.SessionID, WR (v1 + 1)⟩ : TReservation)) hx9 rfl rfl rfl rfl rfl rfl rfl) ?_
      refine wk ?_
      cases H
      refine iq_n ?_
      exact weak_of ⟨wn rfl (by first | rfl | simp), rfl, rfl, rfl, rfl, rfl, trivial⟩ ⟨rfl, ⟨rfl, rfl⟩, trivial⟩
    · have H := bf h H
      refine wk ?_
      cases H
      refine iq_e (fun hq => ?_)
      cases hq
      refine wk ?_
      exact weak_of ⟨rfl, rfl, trivial⟩ ⟨rfl, ⟨rfl, rfl⟩, trivial⟩
  refine wk ?_
  cases H
  exact fin_retW (.cons (.tmp rfl) .nil) rfl rfl rfl rfl (by first | rfl | simp)
def lmarkAccountS_z_L1 (a0 : List TAccount) : (Int × Int) → Option (Step (Int × Int) (Int))
  | (v1, v2) => bif ltB v2 ((a0.length : Nat) : Int) then (Option.bind (ix a0 v2) fun x9 => Option.bind (ix a0 v2) fun x10 => Option.bind (ix a0 v2) fun x11 => Option.bind (ix a0 v2) fun x12 => Option.bind (lmarkReservationS_z x12.Reservations (WR ((WR ((WR (v1 + 1)) + 1)) + 1))) fun r13 => some (.next (r13, WR (v2 + 1)))) else (some (.done v1))
def lmarkAccountS_z (a0 : List TAccount) (a1 : Int) : Option Int :=
  Option.bind (iter (lmarkAccountS_z_L1 a0) FU (a1, 0)) fun (v8 : Int) => some v8
theorem lmarkAccountS_z_c {a0 : List TAccount} {a1 : Int} {r : Int} (H : lmarkAccountS_z a0 a1 = some r) : FnM Tryz.prog 85 [.v (.c (.z (.l (a0.map eTAccount)))), tI a1] r := by
  refine fn_inM Tryz.func85 rfl (by kernel_rfl) Tryz.ntmps85 rfl rfl rfl ?_
  refine wk ?_
  obtain ⟨v8, Hj, H⟩ := ob H
  refine awc_jblk ⟨[(1, tI v8)], [], 0⟩ ?_ ?_
  · refine wk ?_
    refine awc_iter (fun (q : Int × Int) => ⟨[(0, .v (.c (.z (.l (a0.map eTAccount))))), (1, tI q.1), (5, tI q.2)], [], 0⟩) Hj (weak_of ⟨rfl, rfl, rfl, rfl, rfl, rfl, trivial⟩ trivial) ?_
    rintro ⟨v1, v2⟩ o H
    try dsimp only
    refine wk ?_
    refine awc_cond rfl (fun h => ?_) (fun h => ?_)
    · have H := bt h H
      refine wk ?_
      obtain ⟨x9, hx9, H⟩ := ob H
      refine awr_n rfl (xzT (enc := eTAccount) hx9 (fun _ => rfl) rfl rfl rfl) ?_
      refine wk ?_
      obtain ⟨x10, hx10, H⟩ := ob H
      refine awr_n rfl (xzT (enc := eTAccount) hx10 (fun _ => rfl) rfl rfl rfl) ?_
      refine wk ?_
      obtain ⟨x11, hx11, H⟩ := ob H
      refine awr_n rfl (xzT (enc := eTAccount) hx11 (fun _ => rfl) rfl rfl rfl) ?_
      refine wk ?_
      obtain ⟨x12, hx12, H⟩ := ob H
      refine awr_n rfl (xzT (enc := eTAccount) hx12 (fun _ => rfl) rfl rfl rfl) ?_
      refine wk ?_
      obtain ⟨r13, hr13, H⟩ := ob H
      refine awr_step rfl (cz rfl (lmarkReservationS_z_c hr13) rfl rfl) ?_
      refine wk ?_
      cases H
      refine iq_n ?_
      exact weak_of ⟨rfl, rfl, rfl, rfl, rfl, rfl, trivial⟩ trivial
    · have H := bf h H
      refine wk ?_
      cases H
      refine iq_e (fun hq => ?_)
      cases hq
      refine wk ?_
      exact weak_of ⟨rfl, rfl, trivial⟩ trivial
  refine wk ?_
  cases H
  exact fin_ret (.cons (.tmp rfl) .nil) rfl rfl rfl
def lmarkFlightS_z_L1 (a0 : List TFlight) : (Int × Int) → Option (Step (Int × Int) (Int))
  | (v1, v2) => bif ltB v2 ((a0.length : Nat) : Int) then (Option.bind (ix a0 v2) fun x26 => Option.bind (ix a0 v2) fun x27 => Option.bind (ix a0 v2) fun x28 => Option.bind (ix a0 v2) fun x29 => Option.bind (ix a0 v2) fun x30 => Option.bind (ix a0 v2) fun x31 => Option.bind (ix a0 v2) fun x32 => Option.bind (ix a0 v2) fun x33 => Option.bind (ix a0 v2) fun x34 => Option.bind (ix a0 v2) fun x35 => Option.bind (ix a0 v2) fun x36 => Option.bind (ix a0 v2) fun x37 => Option.bind (ix a0 v2) fun x38 => Option.bind (ix a0 v2) fun x39 => Option.bind (ix a0 v2) fun x40 => Option.bind (ix a0 v2) fun x41 => Option.bind (ix a0 v2) fun x42 => Option.bind (ix a0 v2) fun x43 => Option.bind (ix a0 v2) fun x44 => Option.bind (ix a0 v2) fun x45 => Option.bind (lmarkByteS_z x45.Radio.Message.Data (WR ((WR ((WR ((WR ((WR ((WR ((WR ((WR ((WR ((WR ((WR ((WR ((WR ((WR ((WR ((WR ((WR ((WR ((WR (v1 + 1)) + 1)) + 1)) + 1)) + 1)) + 1)) + 1)) + 1)) + 1)) + 1)) + 1)) + 1)) + 1)) + 1)) + 1)) + 1)) + 1)) + 1)) + 1))) fun r46 => Option.bind (ix a0 v2) fun x47 => some (.next (WR (r46 + 1), WR (v2 + 1)))) else (some (.done v1))
def lmarkFlightS_z (a0 : List TFlight) (a1 : Int) : Option Int :=
  Option.bind (iter (lmarkFlightS_z_L1 a0) FU (a1, 0)) fun (v25 : Int) => some v25
theorem lmarkFlightS_z_c {a0 : List TFlight} {a1 : Int} {r : Int} (H : lmarkFlightS_z a0 a1 = some r) : FnM Tryz.prog 86 [.v (.c (.z (.l (a0.map eTFlight)))), tI a1] r := by
  refine fn_inM Tryz.func86 rfl (by kernel_rfl) Tryz.ntmps86 rfl rfl rfl ?_
  refine wk ?_
  obtain ⟨v25, Hj, H⟩ := ob H
  refine awc_jblk ⟨[(1, tI v25)], [], 0⟩ ?_ ?_
  · refine wk ?_
    refine awc_iter (fun (q : Int × Int) => ⟨[(0, .v (.c (.z (.l (a0.map eTFlight))))), (1, tI q.1), (5, tI q.2)], [], 0⟩) Hj (weak_of ⟨rfl, rfl, rfl, rfl, rfl, rfl, trivial⟩ trivial) ?_
    rintro ⟨v1, v2⟩ o H
    try dsimp only
    refine wk ?_
    refine awc_cond rfl (fun h => ?_) (fun h => ?_)
    · have H := bt h H
      refine wk ?_
      obtain ⟨x26, hx26, H⟩ := ob H
      refine awr_n rfl (xzT (enc := eTFlight) hx26 (fun _ => rfl) rfl rfl rfl) ?_
      refine wk ?_
      refine awr_n rfl (ir rfl rfl rfl (by decide)) ?_
      refine wk ?_
      obtain ⟨x27, hx27, H⟩ := ob H
      refine awr_n rfl (xzT (enc := eTFlight) hx27 (fun _ => rfl) rfl rfl rfl) ?_
      refine wk ?_
      refine awr_n rfl (ir rfl rfl rfl (by decide)) ?_
      refine wk ?_
      obtain ⟨x28, hx28, H⟩ := ob H
      refine awr_n rfl (xzT (enc := eTFlight) hx28 (fun _ => rfl) rfl rfl rfl) ?_
      refine wk ?_
      obtain ⟨x29, hx29, H⟩ := ob H
      refine awr_n rfl (xzT (enc := eTFlight) hx29 (fun _ => rfl) rfl rfl rfl) ?_
      refine wk ?_
      obtain ⟨x30, hx30, H⟩ := ob H
      refine awr_n rfl (xzT (enc := eTFlight) hx30 (fun _ => rfl) rfl rfl rfl) ?_
      refine wk ?_
      obtain ⟨x31, hx31, H⟩ := ob H
      refine awr_n rfl (xzT (enc := eTFlight) hx31 (fun _ => rfl) rfl rfl rfl) ?_
      refine wk ?_
      obtain ⟨x32, hx32, H⟩ := ob H
      refine awr_n rfl (xzT (enc := eTFlight) hx32 (fun _ => rfl) rfl rfl rfl) ?_
      refine wk ?_
      obtain ⟨x33, hx33, H⟩ := ob H
      refine awr_n rfl (xzT (enc := eTFlight) hx33 (fun _ => rfl) rfl rfl rfl) ?_
      refine wk ?_
      obtain ⟨x34, hx34, H⟩ := ob H
      refine awr_n rfl (xzT (enc := eTFlight) hx34 (fun _ => rfl) rfl rfl rfl) ?_
      refine wk ?_
      obtain ⟨x35, hx35, H⟩ := ob H
      refine awr_n rfl (xzT (enc := eTFlight) hx35 (fun _ => rfl) rfl rfl rfl) ?_
      refine wk ?_
      obtain ⟨x36, hx36, H⟩ := ob H
      refine awr_n rfl (xzT (enc := eTFlight) hx36 (fun _ => rfl) rfl rfl rfl) ?_
      refine wk ?_
      obtain ⟨x37, hx37, H⟩ := ob H
      refine awr_n rfl (xzT (enc := eTFlight) hx37 (fun _ => rfl) rfl rfl rfl) ?_
      refine wk ?_
      obtain ⟨x38, hx38, H⟩ := ob H
      refine awr_n rfl (xzT (enc := eTFlight) hx38 (fun _ => rfl) rfl rfl rfl) ?_
      refine wk ?_
      obtain ⟨x39, hx39, H⟩ := ob H
      refine awr_n rfl (xzT (enc := eTFlight) hx39 (fun _ => rfl) rfl rfl rfl) ?_
      refine wk ?_
      obtain ⟨x40, hx40, H⟩ := ob H
      refine awr_n rfl (xzT (enc := eTFlight) hx40 (fun _ => rfl) rfl rfl rfl) ?_
      refine wk ?_
      obtain ⟨x41, hx41, H⟩ := ob H
      refine awr_n rfl (xzT (enc := eTFlight) hx41 (fun _ => rfl) rfl rfl rfl) ?_
      refine wk ?_
      obtain ⟨x42, hx42, H⟩ := ob H
      refine awr_n rfl (xzT (enc := eTFlight) hx42 (fun _ => rfl) rfl rfl rfl) ?_
      refine wk ?_
      obtain ⟨x43, hx43, H⟩ := ob H
      refine awr_n rfl (xzT (enc := eTFlight) hx43 (fun _ => rfl) rfl rfl rfl) ?_
      refine wk ?_
      obtain ⟨x44, hx44, H⟩ := ob H
      refine awr_n rfl (xzT (enc := eTFlight) hx44 (fun _ => rfl) rfl rfl rfl) ?_
      refine wk ?_
      obtain ⟨x45, hx45, H⟩ := ob H
      refine awr_n rfl (xzT (enc := eTFlight) hx45 (fun _ => rfl) rfl rfl rfl) ?_
      refine wk ?_
      obtain ⟨r46, hr46, H⟩ := ob H
      refine awr_step rfl (cz rfl (lmarkByteS_z_c hr46) rfl rfl) ?_
      refine wk ?_
      obtain ⟨x47, hx47, H⟩ := ob H
      refine awr_n rfl (xzT (enc := eTFlight) hx47 (fun _ => rfl) rfl rfl rfl) ?_
      refine wk ?_
      cases H
      refine iq_n ?_
      exact weak_of ⟨rfl, rfl, rfl, rfl, rfl, rfl, trivial⟩ trivial
    · have H := bf h H
      refine wk ?_
      cases H
      refine iq_e (fun hq => ?_)
      cases hq
      refine wk ?_
      exact weak_of ⟨rfl, rfl, trivial⟩ trivial
  refine wk ?_
  cases H
  exact fin_ret (.cons (.tmp rfl) .nil) rfl rfl rfl
def lmarkNetwork_z (a0 : TNetwork) (a1 : Int) : Option Int :=
  Option.bind (lmarkCellMap_z a0.Map a1) fun r1 => Option.bind (lmarkDeviceS_z a0.Devices r1) fun r2 => Option.bind (lmarkSessionS_z a0.Sessions r2) fun r3 => Option.bind (lmarkAccountS_z a0.Accounts r3) fun r4 => Option.bind (lmarkFlightS_z a0.Flights r4) fun r5 => some r5
theorem lmarkNetwork_z_c {a0 : TNetwork} {a1 : Int} {r : Int} (H : lmarkNetwork_z a0 a1 = some r) : FnM Tryz.prog 22 [.v (.agg [.z (.l (a0.Map.Cells.map eTCell)), .z (.l (a0.Devices.map eTDevice)), .z (.l (a0.Sessions.map eTSession)), .z (.l (a0.Accounts.map eTAccount)), .z (.l (a0.Flights.map eTFlight)), .z (.i .i64 a0.DownCells), .z (.i .i64 a0.Core.Size), .z (.i .i64 a0.Core.UpMask), .z (.i .i64 a0.Now), .z (.i .i64 a0.Lost)]), tI a1] r := by
  refine fn_inM Tryz.func22 rfl (by kernel_rfl) Tryz.ntmps22 rfl rfl rfl ?_
  refine wk ?_
  obtain ⟨r1, hr1, H⟩ := ob H
  refine awr_step rfl (cz rfl (lmarkCellMap_z_c hr1) rfl rfl) ?_
  refine wk ?_
  obtain ⟨r2, hr2, H⟩ := ob H
  refine awr_step rfl (cz rfl (lmarkDeviceS_z_c hr2) rfl rfl) ?_
  refine wk ?_
  obtain ⟨r3, hr3, H⟩ := ob H
  refine awr_step rfl (cz rfl (lmarkSessionS_z_c hr3) rfl rfl) ?_
  refine wk ?_
  obtain ⟨r4, hr4, H⟩ := ob H
  refine awr_step rfl (cz rfl (lmarkAccountS_z_c hr4) rfl rfl) ?_
  refine wk ?_
  obtain ⟨r5, hr5, H⟩ := ob H
  refine awr_step rfl (cz rfl (lmarkFlightS_z_c hr5) rfl rfl) ?_
  refine wk ?_
  cases H
  exact fin_ret (.cons (.tmp rfl) .nil) rfl rfl rfl
def lmarkLeakedKeyS_z_L1 (a0 : List TLeakedKey) : (Int × Int) → Option (Step (Int × Int) (Int))
  | (v1, v2) => bif ltB v2 ((a0.length : Nat) : Int) then (Option.bind (ix a0 v2) fun x7 => Option.bind (ix a0 v2) fun x8 => Option.bind (lmarkIntS_z x8.Path.Steps (WR (v1 + 1))) fun r9 => some (.next (r9, WR (v2 + 1)))) else (some (.done v1))
def lmarkLeakedKeyS_z (a0 : List TLeakedKey) (a1 : Int) : Option Int :=
  Option.bind (iter (lmarkLeakedKeyS_z_L1 a0) FU (a1, 0)) fun (v6 : Int) => some v6
theorem lmarkLeakedKeyS_z_c {a0 : List TLeakedKey} {a1 : Int} {r : Int} (H : lmarkLeakedKeyS_z a0 a1 = some r) : FnM Tryz.prog 23 [.v (.c (.z (.l (a0.map eTLeakedKey)))), tI a1] r := by
  refine fn_inM Tryz.func23 rfl (by kernel_rfl) Tryz.ntmps23 rfl rfl rfl ?_
  refine wk ?_
  obtain ⟨v6, Hj, H⟩ := ob H
  refine awc_jblk ⟨[(1, tI v6)], [], 0⟩ ?_ ?_
  · refine wk ?_
    refine awc_iter (fun (q : Int × Int) => ⟨[(0, .v (.c (.z (.l (a0.map eTLeakedKey))))), (1, tI q.1), (5, tI q.2)], [], 0⟩) Hj (weak_of ⟨rfl, rfl, rfl, rfl, rfl, rfl, trivial⟩ trivial) ?_
    rintro ⟨v1, v2⟩ o H
    try dsimp only
    refine wk ?_
    refine awc_cond rfl (fun h => ?_) (fun h => ?_)
    · have H := bt h H
      refine wk ?_
      obtain ⟨x7, hx7, H⟩ := ob H
      refine awr_n rfl (xzT (enc := eTLeakedKey) hx7 (fun _ => rfl) rfl rfl rfl) ?_
      refine wk ?_
      obtain ⟨x8, hx8, H⟩ := ob H
      refine awr_n rfl (xzT (enc := eTLeakedKey) hx8 (fun _ => rfl) rfl rfl rfl) ?_
      refine wk ?_
      obtain ⟨r9, hr9, H⟩ := ob H
      refine awr_step rfl (cz rfl (lmarkIntS_z_c hr9) rfl rfl) ?_
      refine wk ?_
      cases H
      refine iq_n ?_
      exact weak_of ⟨rfl, rfl, rfl, rfl, rfl, rfl, trivial⟩ trivial
    · have H := bf h H
      refine wk ?_
      cases H
      refine iq_e (fun hq => ?_)
      cases hq
      refine wk ?_
      exact weak_of ⟨rfl, rfl, trivial⟩ trivial
  refine wk ?_
  cases H
  exact fin_ret (.cons (.tmp rfl) .nil) rfl rfl rfl
def lheldByteS_L1 (a0 : List Int) : (Int × Int) → Option (Step (Int × Int) (Int))
  | (v1, v2) => bif ltB v2 ((a0.length : Nat) : Int) then (Option.bind (ix a0 v2) fun x3 => bif !eqB x3 (IntKind.u8.wrap (v1)) then (dn (some (-1))) else (some (.next (WR (v1 + 1), WR (v2 + 1))))) else (dn (some v1))
def lheldByteS (a0 : List Int) (a1 : Int) : Option Int :=
  iter (lheldByteS_L1 a0) FU (a1, 0)
theorem lheldByteS_c {a0 : List Int} {a1 : Int} {r : Int} (H : lheldByteS a0 a1 = some r) : Fn Tryz.prog 25 [aL (a0.map eU8), aI a1] [.c (.d (.i .i64 r))] := by
  refine fn_in Tryz.func25 rfl (by kernel_rfl) Tryz.ntmps25 rfl rfl rfl ?_
  refine wk ?_
  refine awc_iter (fun (q : Int × Int) => ⟨[(0, .v (.c (.d false (.l (a0.map eU8))))), (1, tI q.1), (5, tI q.2)], [], 0⟩) H (weak_of ⟨rfl, rfl, rfl, rfl, rfl, rfl, trivial⟩ trivial) ?_
  rintro ⟨v1, v2⟩ o H
  try dsimp only
  refine wk ?_
  refine awc_cond rfl (fun h => ?_) (fun h => ?_)
  · have H := bt h H
    refine wk ?_
    obtain ⟨x3, hx3, H⟩ := ob H
    refine awr_n rfl (xdT (enc := eU8) hx3 (fun _ => rfl) rfl rfl rfl) ?_
    refine wk ?_
    refine awc_cond rfl (fun h => ?_) (fun h => ?_)
    · have H := bt h H
      refine wk ?_
      obtain ⟨r0, Hd, rfl⟩ := dnE H
      refine iq_r (fun hq => ?_)
      have H := Hd.trans (congrArg some hq)
      refine wk ?_
      cases H
      exact fin_ret (.cons (.tmp rfl) .nil) rfl rfl rfl
    · have H := bf h H
      refine wk ?_
      cases H
      refine iq_n ?_
      exact weak_of ⟨rfl, rfl, rfl, rfl, rfl, rfl, trivial⟩ trivial
  · have H := bf h H
    refine wk ?_
    obtain ⟨r0, Hd, rfl⟩ := dnE H
    refine iq_e (fun hq => ?_)
    have H := Hd.trans (congrArg some hq)
    refine wk ?_
    cases H
    exact fin_ret (.cons (.tmp rfl) .nil) rfl rfl rfl
end Go.AM
