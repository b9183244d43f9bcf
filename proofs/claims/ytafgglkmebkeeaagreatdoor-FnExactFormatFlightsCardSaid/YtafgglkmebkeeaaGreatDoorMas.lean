/-
  Own text: a part of the abstract machine for this seat (Mas). No statement is proved here.
-/
import Derived.Test.YtafgglkmebkeeaaGreatDoorMai
set_option linter.unusedVariables false
namespace Go.AM
open Go.Proofs
attribute [local irreducible] AWN NS AWO AWR AWC DR Weak iterQ
set_option maxRecDepth 100000
set_option maxHeartbeats 4000000
def sFormatInt_L1  : (ByteArray × Int) → Option (Step (ByteArray × Int) (ByteArray))
  | (v1, v2) => bif !eqB v2 0 then (Option.bind (bif ltB (Int.tmod v2 10) 0 then (some (WR (0 - (Int.tmod v2 10)))) else (some (Int.tmod v2 10))) fun (v5 : Int) => bif saOk (bsOf [IntKind.u8.wrap (WR (48 + v5))]) v1 then (some (.next ((bsOf [IntKind.u8.wrap (WR (48 + v5))]) ++ v1, WR (Int.tdiv v2 10)))) else none) else (some (.done v1))
def sFormatInt (a0 : Int) : Option ByteArray :=
  bif eqB a0 0 then (some ⟨#[48]⟩) else (Option.bind (iter (sFormatInt_L1) FU (⟨#[]⟩, a0)) fun (v4 : ByteArray) => bif ltB a0 0 then (bif saOk (⟨#[45]⟩ : ByteArray) v4 then (some ((⟨#[45]⟩ : ByteArray) ++ v4)) else none) else (some v4))
theorem sFormatInt_c {a0 : Int} {r : ByteArray} (H : sFormatInt a0 = some r) : Fn Tryz.prog 41 [aI a0] [.c (.d (.str r))] := by
  refine fn_in Tryz.func41 rfl (by kernel_rfl) Tryz.ntmps41 rfl rfl rfl ?_
  refine wk ?_
  refine awc_cond rfl (fun h => ?_) (fun h => ?_)
  · have H := bt h H
    refine wk ?_
    cases H
    exact fin_ret (.cons (.tmp rfl) .nil) rfl rfl rfl
  · have H := bf h H
    refine wk ?_
    obtain ⟨v4, Hj, H⟩ := ob H
    refine awc_jblk ⟨[(0, tI a0), (3, tS v4)], [], 0⟩ ?_ ?_
    · refine wk ?_
      refine awc_iter (fun (q : ByteArray × Int) => ⟨[(0, tI a0), (3, tS q.1), (4, tI q.2)], [], 0⟩) Hj (weak_of ⟨rfl, rfl, rfl, rfl, rfl, rfl, trivial⟩ trivial) ?_
      rintro ⟨v1, v2⟩ o H
      try dsimp only
      refine wk ?_
      refine awc_cond rfl (fun h => ?_) (fun h => ?_)
      · have H := bt h H
        refine wk ?_
        refine awr_n rfl (ir rfl rfl rfl (by decide)) ?_
        refine wk ?_
        obtain ⟨v5, Hj, H⟩ := ob H
        refine awc_join ⟨[(0, tI a0), (3, tS v1), (4, tI v2), (5, tI v5)], [], 0⟩ ?_ ?_
        · have H := Hj
          refine wk ?_
          refine awc_cond rfl (fun h => ?_) (fun h => ?_)
          · have H := bt h H
            refine wk ?_
            cases H
            exact weak_of ⟨rfl, rfl, rfl, rfl, rfl, rfl, rfl, rfl, trivial⟩ trivial
          · have H := bf h H
            refine wk ?_
            cases H
            exact weak_of ⟨rfl, rfl, rfl, rfl, rfl, rfl, rfl, rfl, trivial⟩ trivial
        refine wk ?_
        refine awr_n rfl (bt2 (xs := [IntKind.u8.wrap (WR (48 + v5))]) rfl rfl (by first | rfl | simp) rfl) ?_
        refine wk ?_
        obtain ⟨h, H⟩ := rq H
        refine awr_n rfl (saT h rfl rfl rfl) ?_
        refine wk ?_
        refine awr_n rfl (iq rfl rfl rfl (by decide)) ?_
        refine wk ?_
        cases H
        refine iq_n ?_
        exact weak_of ⟨rfl, rfl, rfl, rfl, rfl, rfl, trivial⟩ trivial
      · have H := bf h H
        refine wk ?_
        cases H
        refine iq_e (fun hq => ?_)
        cases hq
        refine wk ?_
        exact weak_of ⟨rfl, rfl, rfl, rfl, trivial⟩ trivial
    refine wk ?_
    refine awc_cond rfl (fun h => ?_) (fun h => ?_)
    · have H := bt h H
      refine wk ?_
      obtain ⟨h, H⟩ := rq H
      refine awr_n rfl (saT h rfl rfl rfl) ?_
      refine wk ?_
      cases H
      exact fin_ret (.cons (.tmp rfl) .nil) rfl rfl rfl
    · have H := bf h H
      refine wk ?_
      cases H
      exact fin_ret (.cons (.tmp rfl) .nil) rfl rfl rfl
def sl10Ints_L1 (a0 : List Int) (a1 : ByteArray) : (ByteArray × Int) → Option (Step (ByteArray × Int) (ByteArray))
  | (v1, v2) => bif ltB v2 ((a0.length : Nat) : Int) then (Option.bind (bif ltB 0 v2 then (bif saOk v1 a1 then (some (v1 ++ a1)) else none) else (some v1)) fun (v7 : ByteArray) => Option.bind (ix a0 v2) fun x8 => Option.bind (sFormatInt x8) fun r9 => bif saOk v7 r9 then (some (.next (v7 ++ r9, WR (v2 + 1)))) else none) else (some (.done v1))
def sl10Ints (a0 : List Int) (a1 : ByteArray) : Option ByteArray :=
  Option.bind (iter (sl10Ints_L1 a0 a1) FU (⟨#[]⟩, 0)) fun (v6 : ByteArray) => some v6
theorem sl10Ints_c {a0 : List Int} {a1 : ByteArray} {r : ByteArray} (H : sl10Ints a0 a1 = some r) : Fn Tryz.prog 17 [aL (a0.map eI), aS a1] [.c (.d (.str r))] := by
  refine fn_in Tryz.func17 rfl (by kernel_rfl) Tryz.ntmps17 rfl rfl rfl ?_
  refine wk ?_
  obtain ⟨v6, Hj, H⟩ := ob H
  refine awc_jblk ⟨[(5, tS v6)], [], 0⟩ ?_ ?_
  · refine wk ?_
    refine awc_iter (fun (q : ByteArray × Int) => ⟨[(0, .v (.c (.d false (.l (a0.map eI))))), (1, tS a1), (5, tS q.1), (6, tI q.2)], [], 0⟩) Hj (weak_of ⟨rfl, rfl, rfl, rfl, rfl, rfl, rfl, rfl, trivial⟩ trivial) ?_
    rintro ⟨v1, v2⟩ o H
    try dsimp only
    refine wk ?_
    refine awc_cond rfl (fun h => ?_) (fun h => ?_)
    · have H := bt h H
      refine wk ?_
      obtain ⟨v7, Hj, H⟩ := ob H
      refine awc_join ⟨[(0, .v (.c (.d false (.l (a0.map eI))))), (1, tS a1), (5, tS v7), (6, tI v2)], [], 0⟩ ?_ ?_
      · have H := Hj
        refine wk ?_
        refine awc_cond rfl (fun h => ?_) (fun h => ?_)
        · have H := bt h H
          refine wk ?_
          obtain ⟨h, H⟩ := rq H
          refine awr_n rfl (saT h rfl rfl rfl) ?_
          refine wk ?_
          cases H
          exact weak_of ⟨rfl, rfl, rfl, rfl, rfl, rfl, rfl, rfl, trivial⟩ trivial
        · have H := bf h H
          refine wk ?_
          cases H
          exact weak_of ⟨rfl, rfl, rfl, rfl, rfl, rfl, rfl, rfl, trivial⟩ trivial
      refine wk ?_
      obtain ⟨x8, hx8, H⟩ := ob H
      refine awr_n rfl (xdT (enc := eI) hx8 (fun _ => rfl) rfl rfl rfl) ?_
      refine wk ?_
      obtain ⟨r9, hr9, H⟩ := ob H
      refine awr_n rfl (ca rfl rfl rfl (sFormatInt_c hr9) trivial rfl rfl rfl rfl) ?_
      refine wk ?_
      obtain ⟨h, H⟩ := rq H
      refine awr_n rfl (saT h rfl rfl rfl) ?_
      refine wk ?_
      cases H
      refine iq_n ?_
      exact weak_of ⟨rfl, rfl, rfl, rfl, rfl, rfl, rfl, rfl, trivial⟩ trivial
    · have H := bf h H
      refine wk ?_
      cases H
      refine iq_e (fun hq => ?_)
      cases hq
      refine wk ?_
      exact weak_of ⟨rfl, rfl, trivial⟩ trivial
  refine wk ?_
  cases H
  exact fin_ret (.cons (.tmp rfl) .nil) rfl rfl rfl
def sSummary_L1 (a0 : TNetwork) : (Int × List Int) → Option (Step (Int × List Int) (List Int))
  | (v1, v2) => bif ltB v1 ((a0.Devices.length : Nat) : Int) then (Option.bind (ix a0.Devices v1) fun x5 => bif apOk 8 (v2 ++ [((x5.Receiver.Delivered.length : Nat) : Int)]).length then (some (.next (WR (v1 + 1), (v2 ++ [((x5.Receiver.Delivered.length : Nat) : Int)])))) else none) else (some (.done v2))
def sSummary (a0 : TNetwork) : Option (List Int) :=
  Option.bind (iter (sSummary_L1 a0) FU (0, [a0.Now, ((a0.Flights.length : Nat) : Int), a0.Lost])) fun (v4 : List Int) => some v4
theorem sSummary_c {a0 : TNetwork} {r : List Int} (H : sSummary a0 = some r) : Fn Tryz.prog 18 [.agg (eTNetwork a0)] [.c (.own 3 1 (r.map eI) r.length)] := by
  refine fn_in Tryz.func18 rfl (by kernel_rfl) Tryz.ntmps18 rfl rfl rfl ?_
  refine wk ?_
  obtain ⟨v4, Hj, H⟩ := ob H
  refine awc_jblk ⟨[(3, .v (.c (.w 1 v4.length)))], [(1, .row 3 1 (v4.map eI) true true)], 2⟩ ?_ ?_
  · refine wk ?_
    refine awc_iter (fun (q : Int × List Int) => ⟨[(1, .v (.c (.p 0 0))), (3, .v (.c (.w 1 q.2.length))), (4, tI q.1)], [(0, .var 44 [.d false (.l (a0.Map.Cells.map eTCell)), .d false (.l (a0.Devices.map eTDevice)), .d false (.l (a0.Sessions.map eTSession)), .d false (.l (a0.Accounts.map eTAccount)), .d false (.l (a0.Flights.map eTFlight)), .d false (.i .i64 a0.DownCells), .d false (.i .i64 a0.Core.Size), .d false (.i .i64 a0.Core.UpMask), .d false (.i .i64 a0.Now), .d false (.i .i64 a0.Lost)]), (1, .row 3 1 (q.2.map eI) true true)], 2⟩) Hj (weak_of ⟨rfl, rfl, wn rfl (by first | rfl | simp), rfl, rfl, rfl, trivial⟩ ⟨rfl, ⟨rfl, rfl⟩, rfl, ⟨rfl, rfl⟩, trivial⟩) ?_
    rintro ⟨v1, v2⟩ o H
    try dsimp only
    refine wk ?_
    refine awc_cond rfl (fun h => ?_) (fun h => ?_)
    · have H := bt h H
      refine wk ?_
      obtain ⟨x5, hx5, H⟩ := ob H
      refine awr_n rfl (xdT (enc := eTDevice) hx5 (fun _ => rfl) rfl rfl rfl) ?_
      refine wk ?_
      obtain ⟨h, H⟩ := rq H
      refine awr_step rfl (apT (enc := eI) (ys := v2) (zs := [((x5.Receiver.Delivered.length : Nat) : Int)]) h rfl (fun _ => rfl) (by first | rfl | simp) (.w rfl (by first | rfl | exact lm _ | simp)) rfl rfl rfl rfl rfl rfl rfl rfl) ?_
      refine wk ?_
      cases H
      refine iq_n ?_
      exact weak_of ⟨rfl, rfl, wn rfl (by first | rfl | simp), rfl, rfl, rfl, trivial⟩ ⟨rfl, ⟨rfl, rfl⟩, rfl, ⟨rfl, rfl⟩, trivial⟩
    · have H := bf h H
      refine wk ?_
      cases H
      refine iq_e (fun hq => ?_)
      cases hq
      refine wk ?_
      exact weak_of ⟨wn rfl (by first | rfl | simp), rfl, trivial⟩ ⟨rfl, ⟨rfl, rfl⟩, trivial⟩
  refine wk ?_
  cases H
  exact fin_ret (.cons (.tmp rfl) .nil) rfl rfl (by first | rfl | simp)
def sFormatSummary (a0 : TNetwork) : Option ByteArray :=
  Option.bind (sSummary a0) fun r1 => Option.bind (sl10Ints r1 ⟨#[32]⟩) fun r2 => some r2
theorem sFormatSummary_c {a0 : TNetwork} {r : ByteArray} (H : sFormatSummary a0 = some r) : Fn Tryz.prog 6 [.agg (eTNetwork a0)] [.c (.d (.str r))] := by
  refine fn_in Tryz.func6 rfl (by kernel_rfl) Tryz.ntmps6 rfl rfl rfl ?_
  refine wk ?_
  obtain ⟨r1, hr1, H⟩ := ob H
  refine awr_n rfl (ca rfl rfl rfl (sSummary_c hr1) trivial rfl rfl rfl rfl) ?_
  refine wk ?_
  obtain ⟨r2, hr2, H⟩ := ob H
  refine awr_n rfl (ca rfl rfl rfl (sl10Ints_c hr2) ⟨by first | rfl | exact lm _, trivial⟩ rfl rfl rfl rfl) ?_
  refine wk ?_
  cases H
  exact fin_ret (.cons (.tmp rfl) .nil) rfl rfl rfl
def sl1In (a0 : Int) (a1 : Int) (a2 : Int) : Option Bool :=
  Option.bind (bif leB a1 a0 then (some (leB a0 a2)) else (some false)) fun (v1 : Bool) => some v1
theorem sl1In_c {a0 : Int} {a1 : Int} {a2 : Int} {r : Bool} (H : sl1In a0 a1 a2 = some r) : Fn Tryz.prog 92 [aI a0, aI a1, aI a2] [.c (.d (.b r))] := by
  refine fn_in Tryz.func92 rfl (by kernel_rfl) Tryz.ntmps92 rfl rfl rfl ?_
  refine wk ?_
  obtain ⟨v1, Hj, H⟩ := ob H
  refine awr_join ⟨[(6, tB v1)], [], 0⟩ ?_ ?_
  · have H := Hj
    refine wk ?_
    refine g2 rfl rfl rfl (fun h => ?_) (fun h => ?_)
    · have H := bt h H
      refine wk ?_
      cases H
      exact weak_of ⟨rfl, rfl, trivial⟩ trivial
    · have H := bf h H
      refine wk ?_
      cases H
      exact weak_of ⟨rfl, rfl, trivial⟩ trivial
  refine wk ?_
  cases H
  exact fin_ret (.cons (.tmp rfl) .nil) rfl rfl rfl
def sFormatSignal (a0 : TSignal) : Option ByteArray :=
  Option.bind (sl1In a0.Kind 1 8) fun r1 => Option.bind (bif r1 then (Option.bind (ix [⟨#[]⟩, ⟨#[97, 116, 116, 97, 99, 104]⟩, ⟨#[99, 104, 97, 108, 108, 101, 110, 103, 101]⟩, ⟨#[114, 101, 115, 112, 111, 110, 115, 101]⟩, ⟨#[97, 99, 99, 101, 112, 116]⟩, ⟨#[112, 97, 116, 104, 45, 117, 112, 100, 97, 116, 101]⟩, ⟨#[112, 97, 116, 104, 45, 97, 99, 107]⟩, ⟨#[112, 97, 103, 101]⟩, ⟨#[100, 97, 116, 97, 45, 97, 99, 107]⟩] a0.Kind) fun x3 => some x3) else (some ⟨#[63]⟩)) fun (v2 : ByteArray) => bif saOk v2 (⟨#[64]⟩ : ByteArray) then (Option.bind (sFormatInt a0.Cell) fun r4 => bif saOk (v2 ++ (⟨#[64]⟩ : ByteArray)) r4 then (bif saOk ((v2 ++ (⟨#[64]⟩ : ByteArray)) ++ r4) (⟨#[58]⟩ : ByteArray) then (Option.bind (sFormatInt a0.Generation) fun r5 => bif saOk (((v2 ++ (⟨#[64]⟩ : ByteArray)) ++ r4) ++ (⟨#[58]⟩ : ByteArray)) r5 then (bif saOk ((((v2 ++ (⟨#[64]⟩ : ByteArray)) ++ r4) ++ (⟨#[58]⟩ : ByteArray)) ++ r5) (⟨#[46]⟩ : ByteArray) then (Option.bind (sFormatInt a0.Epoch) fun r6 => bif saOk (((((v2 ++ (⟨#[64]⟩ : ByteArray)) ++ r4) ++ (⟨#[58]⟩ : ByteArray)) ++ r5) ++ (⟨#[46]⟩ : ByteArray)) r6 then (some ((((((v2 ++ (⟨#[64]⟩ : ByteArray)) ++ r4) ++ (⟨#[58]⟩ : ByteArray)) ++ r5) ++ (⟨#[46]⟩ : ByteArray)) ++ r6)) else none) else none) else none) else none) else none) else none
theorem sFormatSignal_c {a0 : TSignal} {r : ByteArray} (H : sFormatSignal a0 = some r) : Fn Tryz.prog 53 [.agg (eTSignal a0)] [.c (.d (.str r))] := by
  refine fn_in Tryz.func53 rfl (by kernel_rfl) Tryz.ntmps53 rfl rfl rfl ?_
  refine wkd ?_
  obtain ⟨r1, hr1, H⟩ := ob H
  refine awr_n rfl (ca rfl rfl rfl (sl1In_c hr1) trivial rfl rfl rfl rfl) ?_
  refine wkd ?_
  obtain ⟨v2, Hj, H⟩ := ob H
  refine awc_join ⟨[(1, .v (.c (.p 0 0))), (3, tS v2)], [(0, .var 72 [.d false (.i .i64 a0.Kind), .d false (.i .i64 a0.Cell), .d false (.i .i64 a0.Generation), .d false (.i .i64 a0.Epoch), .d false (.i .i64 a0.Number), .d false (.i .i64 a0.Vector.Rand), .d false (.i .i64 a0.Vector.Autn), .d false (.i .i64 a0.Vector.MAC), .d false (.i .i64 a0.Vector.Res), .d false (.i .i64 a0.Vector.Key), .d false (.i .i64 a0.MAC)])], 1⟩ ?_ ?_
  · have H := Hj
    refine wkd ?_
    refine awc_cond rfl (fun h => ?_) (fun h => ?_)
    · have H := bt h H
      refine wkd ?_
      obtain ⟨x3, hx3, H⟩ := ob H
      refine awr_n rfl (xwT hx3 (by first | rfl | simp) rfl rfl rfl) ?_
      refine wkd ?_
      refine awr_n rfl (oe rfl rfl rfl (ix_map eS hx3) rfl) ?_
      refine wkd ?_
      cases H
      exact weak_of ⟨rfl, rfl, rfl, rfl, trivial⟩ ⟨rfl, ⟨rfl, rfl⟩, trivial⟩
    · have H := bf h H
      refine wkd ?_
      cases H
      exact weak_of ⟨rfl, rfl, rfl, rfl, trivial⟩ ⟨rfl, ⟨rfl, rfl⟩, trivial⟩
  refine wkd ?_
  obtain ⟨h, H⟩ := rq H
  refine dr_n rfl (saT h rfl rfl rfl) ?_
  refine wkd ?_
  obtain ⟨r4, hr4, H⟩ := ob H
  refine dr_n rfl (ca rfl rfl rfl (sFormatInt_c hr4) trivial rfl rfl rfl rfl) ?_
  refine wkd ?_
  obtain ⟨h, H⟩ := rq H
  refine dr_n rfl (saT h rfl rfl rfl) ?_
  refine wkd ?_
  obtain ⟨h, H⟩ := rq H
  refine dr_n rfl (saT h rfl rfl rfl) ?_
  refine wkd ?_
  obtain ⟨r5, hr5, H⟩ := ob H
  refine dr_n rfl (ca rfl rfl rfl (sFormatInt_c hr5) trivial rfl rfl rfl rfl) ?_
  refine wkd ?_
  obtain ⟨h, H⟩ := rq H
  refine dr_n rfl (saT h rfl rfl rfl) ?_
  refine wkd ?_
  obtain ⟨h, H⟩ := rq H
  refine dr_n rfl (saT h rfl rfl rfl) ?_
  refine wkd ?_
  obtain ⟨r6, hr6, H⟩ := ob H
  refine dr_n rfl (ca rfl rfl rfl (sFormatInt_c hr6) trivial rfl rfl rfl rfl) ?_
  refine wkd ?_
  obtain ⟨h, H⟩ := rq H
  refine dr_n rfl (saT h rfl rfl rfl) ?_
  refine wkd ?_
  cases H
  exact fin_ret (.cons (.tmp rfl) .nil) rfl rfl rfl
def sFormatFlight (a0 : TFlight) : Option ByteArray :=
  Option.bind (sFormatInt a0.Device) fun r1 => Option.bind (bif a0.Uplink then (bif saOk r1 (⟨#[94]⟩ : ByteArray) then (some (r1 ++ (⟨#[94]⟩ : ByteArray))) else none) else (bif saOk r1 (⟨#[118]⟩ : ByteArray) then (some (r1 ++ (⟨#[118]⟩ : ByteArray))) else none)) fun (v2 : ByteArray) => bif !a0.IsRadio then (Option.bind (sFormatSignal a0.Signal) fun r3 => bif saOk v2 r3 then (some (v2 ++ r3)) else none) else (bif saOk v2 (⟨#[100, 97, 116, 97, 64]⟩ : ByteArray) then (Option.bind (sFormatInt a0.Cell) fun r4 => bif saOk (v2 ++ (⟨#[100, 97, 116, 97, 64]⟩ : ByteArray)) r4 then (bif saOk ((v2 ++ (⟨#[100, 97, 116, 97, 64]⟩ : ByteArray)) ++ r4) (⟨#[58]⟩ : ByteArray) then (Option.bind (sFormatInt a0.Radio.Message.Count) fun r5 => bif saOk (((v2 ++ (⟨#[100, 97, 116, 97, 64]⟩ : ByteArray)) ++ r4) ++ (⟨#[58]⟩ : ByteArray)) r5 then (bif saOk ((((v2 ++ (⟨#[100, 97, 116, 97, 64]⟩ : ByteArray)) ++ r4) ++ (⟨#[58]⟩ : ByteArray)) ++ r5) (⟨#[46]⟩ : ByteArray) then (Option.bind (sFormatInt a0.Radio.Epoch) fun r6 => bif saOk (((((v2 ++ (⟨#[100, 97, 116, 97, 64]⟩ : ByteArray)) ++ r4) ++ (⟨#[58]⟩ : ByteArray)) ++ r5) ++ (⟨#[46]⟩ : ByteArray)) r6 then (some ((((((v2 ++ (⟨#[100, 97, 116, 97, 64]⟩ : ByteArray)) ++ r4) ++ (⟨#[58]⟩ : ByteArray)) ++ r5) ++ (⟨#[46]⟩ : ByteArray)) ++ r6)) else none) else none) else none) else none) else none) else none)
theorem sFormatFlight_c {a0 : TFlight} {r : ByteArray} (H : sFormatFlight a0 = some r) : Fn Tryz.prog 33 [.agg (eTFlight a0)] [.c (.d (.str r))] := by
  refine fn_in Tryz.func33 rfl (by kernel_rfl) Tryz.ntmps33 rfl rfl rfl ?_
  refine wkd ?_
  obtain ⟨r1, hr1, H⟩ := ob H
  refine awr_n rfl (ca rfl rfl rfl (sFormatInt_c hr1) trivial rfl rfl rfl rfl) ?_
  refine wkd ?_
  obtain ⟨v2, Hj, H⟩ := ob H
  refine awc_join ⟨[(1, .v (.c (.p 0 0))), (3, tS v2)], [(0, .var 79 [.d false (.i .i64 a0.Device), .d false (.b a0.Uplink), .d false (.b a0.IsRadio), .d false (.i .i64 a0.Cell), .d false (.i .i64 a0.Signal.Kind), .d false (.i .i64 a0.Signal.Cell), .d false (.i .i64 a0.Signal.Generation), .d false (.i .i64 a0.Signal.Epoch), .d false (.i .i64 a0.Signal.Number), .d false (.i .i64 a0.Signal.Vector.Rand), .d false (.i .i64 a0.Signal.Vector.Autn), .d false (.i .i64 a0.Signal.Vector.MAC), .d false (.i .i64 a0.Signal.Vector.Res), .d false (.i .i64 a0.Signal.Vector.Key), .d false (.i .i64 a0.Signal.MAC), .d false (.i .i64 a0.Radio.Generation), .d false (.i .i64 a0.Radio.Epoch), .d false (.i .i64 a0.Radio.Message.Direction), .d false (.i .i64 a0.Radio.Message.Count), .d false (.l (a0.Radio.Message.Data.map eU8)), .d false (.i .i64 a0.Radio.Message.MAC)])], 1⟩ ?_ ?_
  · have H := Hj
    refine wkd ?_
    refine awc_cond rfl (fun h => ?_) (fun h => ?_)
    · have H := bt h H
      refine wkd ?_
      obtain ⟨h, H⟩ := rq H
      refine awr_n rfl (saT h rfl rfl rfl) ?_
      refine wkd ?_
      cases H
      exact weak_of ⟨rfl, rfl, rfl, rfl, trivial⟩ ⟨rfl, ⟨rfl, rfl⟩, trivial⟩
    · have H := bf h H
      refine wkd ?_
      obtain ⟨h, H⟩ := rq H
      refine awr_n rfl (saT h rfl rfl rfl) ?_
      refine wkd ?_
      cases H
      exact weak_of ⟨rfl, rfl, rfl, rfl, trivial⟩ ⟨rfl, ⟨rfl, rfl⟩, trivial⟩
  refine wkd ?_
  refine awc_cond rfl (fun h => ?_) (fun h => ?_)
  · have H := bt h H
    refine wkd ?_
    obtain ⟨r3, hr3, H⟩ := ob H
    refine awr_n rfl (ca rfl rfl rfl (sFormatSignal_c hr3) trivial rfl rfl rfl rfl) ?_
    refine wkd ?_
    obtain ⟨h, H⟩ := rq H
    refine awr_n rfl (saT h rfl rfl rfl) ?_
    refine wkd ?_
    cases H
    exact fin_ret (.cons (.tmp rfl) .nil) rfl rfl rfl
  · have H := bf h H
    refine wkd ?_
    obtain ⟨h, H⟩ := rq H
    refine dr_n rfl (saT h rfl rfl rfl) ?_
    refine wkd ?_
    obtain ⟨r4, hr4, H⟩ := ob H
    refine dr_n rfl (ca rfl rfl rfl (sFormatInt_c hr4) trivial rfl rfl rfl rfl) ?_
    refine wkd ?_
    obtain ⟨h, H⟩ := rq H
    refine dr_n rfl (saT h rfl rfl rfl) ?_
    refine wkd ?_
    obtain ⟨h, H⟩ := rq H
    refine dr_n rfl (saT h rfl rfl rfl) ?_
    refine wkd ?_
    obtain ⟨r5, hr5, H⟩ := ob H
    refine dr_n rfl (ca rfl rfl rfl (sFormatInt_c hr5) trivial rfl rfl rfl rfl) ?_
    refine wkd ?_
    obtain ⟨h, H⟩ := rq H
    refine dr_n rfl (saT h rfl rfl rfl) ?_
    refine wkd ?_
    obtain ⟨h, H⟩ := rq H
    refine dr_n rfl (saT h rfl rfl rfl) ?_
    refine wkd ?_
    obtain ⟨r6, hr6, H⟩ := ob H
    refine dr_n rfl (ca rfl rfl rfl (sFormatInt_c hr6) trivial rfl rfl rfl rfl) ?_
    refine wkd ?_
    obtain ⟨h, H⟩ := rq H
    refine dr_n rfl (saT h rfl rfl rfl) ?_
    refine wkd ?_
    cases H
    exact fin_ret (.cons (.tmp rfl) .nil) rfl rfl rfl
def sFormatFlights_L1 (a0 : TNetwork) : (ByteArray × Int) → Option (Step (ByteArray × Int) (ByteArray))
  | (v1, v2) => bif ltB v2 ((a0.Flights.length : Nat) : Int) then (Option.bind (bif ltB 0 v2 then (bif saOk v1 (⟨#[59, 32]⟩ : ByteArray) then (some (v1 ++ (⟨#[59, 32]⟩ : ByteArray))) else none) else (some v1)) fun (v7 : ByteArray) => Option.bind (ix a0.Flights v2) fun x8 => Option.bind (sFormatFlight x8) fun r9 => bif saOk v7 r9 then (some (.next (v7 ++ r9, WR (v2 + 1)))) else none) else (some (.done v1))
def sFormatFlights (a0 : TNetwork) : Option ByteArray :=
  Option.bind (iter (sFormatFlights_L1 a0) FU (⟨#[]⟩, 0)) fun (v6 : ByteArray) => bif eqB ((a0.Flights.length : Nat) : Int) 0 then (some ⟨#[45]⟩) else (some v6)
theorem sFormatFlights_c {a0 : TNetwork} {r : ByteArray} (H : sFormatFlights a0 = some r) : Fn Tryz.prog 10 [.agg (eTNetwork a0)] [.c (.d (.str r))] := by
  refine fn_in Tryz.func10 rfl (by kernel_rfl) Tryz.ntmps10 rfl rfl rfl ?_
  refine wk ?_
  obtain ⟨v6, Hj, H⟩ := ob H
  refine awc_jblk ⟨[(1, .v (.c (.p 0 0))), (3, tS v6)], [(0, .var 44 [.d false (.l (a0.Map.Cells.map eTCell)), .d false (.l (a0.Devices.map eTDevice)), .d false (.l (a0.Sessions.map eTSession)), .d false (.l (a0.Accounts.map eTAccount)), .d false (.l (a0.Flights.map eTFlight)), .d false (.i .i64 a0.DownCells), .d false (.i .i64 a0.Core.Size), .d false (.i .i64 a0.Core.UpMask), .d false (.i .i64 a0.Now), .d false (.i .i64 a0.Lost)])], 1⟩ ?_ ?_
  · refine wk ?_
    refine awc_iter (fun (q : ByteArray × Int) => ⟨[(1, .v (.c (.p 0 0))), (3, tS q.1), (4, tI q.2)], [(0, .var 44 [.d false (.l (a0.Map.Cells.map eTCell)), .d false (.l (a0.Devices.map eTDevice)), .d false (.l (a0.Sessions.map eTSession)), .d false (.l (a0.Accounts.map eTAccount)), .d false (.l (a0.Flights.map eTFlight)), .d false (.i .i64 a0.DownCells), .d false (.i .i64 a0.Core.Size), .d false (.i .i64 a0.Core.UpMask), .d false (.i .i64 a0.Now), .d false (.i .i64 a0.Lost)])], 1⟩) Hj (weak_of ⟨rfl, rfl, rfl, rfl, rfl, rfl, trivial⟩ ⟨rfl, ⟨rfl, rfl⟩, trivial⟩) ?_
    rintro ⟨v1, v2⟩ o H
    try dsimp only
    refine wk ?_
    refine awc_cond rfl (fun h => ?_) (fun h => ?_)
    · have H := bt h H
      refine wk ?_
      obtain ⟨v7, Hj, H⟩ := ob H
      refine awc_join ⟨[(1, .v (.c (.p 0 0))), (3, tS v7), (4, tI v2)], [(0, .var 44 [.d false (.l (a0.Map.Cells.map eTCell)), .d false (.l (a0.Devices.map eTDevice)), .d false (.l (a0.Sessions.map eTSession)), .d false (.l (a0.Accounts.map eTAccount)), .d false (.l (a0.Flights.map eTFlight)), .d false (.i .i64 a0.DownCells), .d false (.i .i64 a0.Core.Size), .d false (.i .i64 a0.Core.UpMask), .d false (.i .i64 a0.Now), .d false (.i .i64 a0.Lost)])], 1⟩ ?_ ?_
      · have H := Hj
        refine wk ?_
        refine awc_cond rfl (fun h => ?_) (fun h => ?_)
        · have H := bt h H
          refine wk ?_
          obtain ⟨h, H⟩ := rq H
          refine awr_n rfl (saT h rfl rfl rfl) ?_
          refine wk ?_
          cases H
          exact weak_of ⟨rfl, rfl, rfl, rfl, rfl, rfl, trivial⟩ ⟨rfl, ⟨rfl, rfl⟩, trivial⟩
        · have H := bf h H
          refine wk ?_
          cases H
          exact weak_of ⟨rfl, rfl, rfl, rfl, rfl, rfl, trivial⟩ ⟨rfl, ⟨rfl, rfl⟩, trivial⟩
      refine wk ?_
      obtain ⟨x8, hx8, H⟩ := ob H
      refine awr_n rfl (xdT (enc := eTFlight) hx8 (fun _ => rfl) rfl rfl rfl) ?_
      refine wk ?_
      obtain ⟨r9, hr9, H⟩ := ob H
      refine awr_n rfl (ca rfl rfl rfl (sFormatFlight_c hr9) trivial rfl rfl rfl rfl) ?_
      refine wk ?_
      obtain ⟨h, H⟩ := rq H
      refine awr_n rfl (saT h rfl rfl rfl) ?_
      refine wk ?_
      cases H
      refine iq_n ?_
      exact weak_of ⟨rfl, rfl, rfl, rfl, rfl, rfl, trivial⟩ ⟨rfl, ⟨rfl, rfl⟩, trivial⟩
    · have H := bf h H
      refine wk ?_
      cases H
      refine iq_e (fun hq => ?_)
      cases hq
      refine wk ?_
      exact weak_of ⟨rfl, rfl, rfl, rfl, trivial⟩ ⟨rfl, ⟨rfl, rfl⟩, trivial⟩
  refine wk ?_
  refine awc_cond rfl (fun h => ?_) (fun h => ?_)
  · have H := bt h H
    refine wk ?_
    cases H
    exact fin_ret (.cons (.tmp rfl) .nil) rfl rfl rfl
  · have H := bf h H
    refine wk ?_
    cases H
    exact fin_ret (.cons (.tmp rfl) .nil) rfl rfl rfl
end Go.AM
