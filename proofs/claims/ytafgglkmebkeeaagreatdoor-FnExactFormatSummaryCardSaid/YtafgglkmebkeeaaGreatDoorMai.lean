/-
  Own text: a part of the abstract machine for this seat (Mai). No statement is proved here.
-/
import Derived.Test.YtafgglkmebkeeaaGreatDoorMag
set_option linter.unusedVariables false
namespace Go.AM
open Go.Proofs
attribute [local irreducible] AWN NS AWO AWR AWC DR Weak iterQ
set_option maxRecDepth 100000
set_option maxHeartbeats 4000000
def iFormatInt (a0 : Int) : Option ByteArray :=
  Option.bind (gItoa a0) fun r1 => some r1
theorem iFormatInt_c {a0 : Int} {r : ByteArray} (H : iFormatInt a0 = some r) : Fn Tryz.prog 47 [aI a0] [.c (.d (.str r))] := by
  refine fn_in Tryz.func47 rfl (by kernel_rfl) Tryz.ntmps47 rfl rfl rfl ?_
  refine wk ?_
  obtain ⟨r1, hr1, H⟩ := ob H
  refine awr_n rfl (ca rfl rfl rfl (gItoa_c hr1) trivial rfl rfl rfl rfl) ?_
  refine wk ?_
  cases H
  exact fin_ret (.cons (.tmp rfl) .nil) rfl rfl rfl
def ijoinInts_L1 (a0 : List Int) : (Int × List ByteArray) → Option (Step (Int × List ByteArray) (List ByteArray))
  | (v1, v2) => bif ltB v1 ((a0.length : Nat) : Int) then (Option.bind (ix a0 v1) fun x7 => Option.bind (iFormatInt x7) fun r8 => Option.bind (ix v2 v1) fun x9 => some (.next (WR (v1 + 1), (v2.set (v1).toNat r8)))) else (some (.done v2))
def ijoinInts (a0 : List Int) (a1 : ByteArray) : Option ByteArray :=
  bif mkOk 16 ((a0.length : Nat) : Int) ((a0.length : Nat) : Int) then (Option.bind (iter (ijoinInts_L1 a0) FU (0, (List.replicate (((a0.length : Nat) : Int)).toNat (⟨#[]⟩ : ByteArray)))) fun (v6 : List ByteArray) => Option.bind (gJoin v6 a1) fun r10 => some r10) else none
theorem ijoinInts_c {a0 : List Int} {a1 : ByteArray} {r : ByteArray} (H : ijoinInts a0 a1 = some r) : Fn Tryz.prog 25 [aL (a0.map eI), aS a1] [.c (.d (.str r))] := by
  refine fn_in Tryz.func25 rfl (by kernel_rfl) Tryz.ntmps25 rfl rfl rfl ?_
  refine wk ?_
  obtain ⟨h, H⟩ := rq H
  refine awr_n rfl (mkT (enc := eS) (za := (⟨#[]⟩ : ByteArray)) h (by rfl) rfl rfl rfl rfl) ?_
  refine wk ?_
  obtain ⟨v6, Hj, H⟩ := ob H
  refine awc_jblk ⟨[(1, tS a1), (5, .v (.c (.w 0 v6.length)))], [(0, .row 9 1 (v6.map eS) true true)], 1⟩ ?_ ?_
  · refine wk ?_
    refine awc_iter (fun (q : Int × List ByteArray) => ⟨[(1, tS a1), (5, .v (.c (.w 0 q.2.length))), (11, .v (.c (.d false (.l (a0.map eI))))), (12, tI ((a0.length : Nat) : Int)), (13, tI q.1)], [(0, .row 9 1 (q.2.map eS) true true)], 1⟩) Hj (weak_of ⟨rfl, rfl, wn rfl (by first | rfl | simp), rfl, rfl, rfl, rfl, rfl, rfl, rfl, trivial⟩ ⟨rfl, ⟨rfl, rfl⟩, trivial⟩) ?_
    rintro ⟨v1, v2⟩ o H
    try dsimp only
    refine wk ?_
    refine awc_cond rfl (fun h => ?_) (fun h => ?_)
    · have H := bt h H
      refine wk ?_
      obtain ⟨x7, hx7, H⟩ := ob H
      refine awr_n rfl (xdT (enc := eI) hx7 (fun _ => rfl) rfl rfl rfl) ?_
      refine wk ?_
      obtain ⟨r8, hr8, H⟩ := ob H
      refine awr_n rfl (ca rfl rfl rfl (iFormatInt_c hr8) trivial rfl rfl rfl rfl) ?_
      refine wk ?_
      obtain ⟨x9, hx9, H⟩ := ob H
      refine awr_n rfl (xwT hx9 (by first | rfl | simp) rfl rfl rfl) ?_
      refine wk ?_
      refine awr_step rfl (soT (enc := eS) (a' := r8) hx9 rfl rfl rfl rfl rfl rfl rfl) ?_
      refine wk ?_
      cases H
      refine iq_n ?_
      exact weak_of ⟨rfl, rfl, wn rfl (by first | rfl | simp), rfl, rfl, rfl, rfl, rfl, rfl, rfl, trivial⟩ ⟨rfl, ⟨rfl, rfl⟩, trivial⟩
    · have H := bf h H
      refine wk ?_
      cases H
      refine iq_e (fun hq => ?_)
      cases hq
      refine wk ?_
      exact weak_of ⟨rfl, rfl, wn rfl (by first | rfl | simp), rfl, trivial⟩ ⟨rfl, ⟨rfl, rfl⟩, trivial⟩
  refine wk ?_
  obtain ⟨r10, hr10, H⟩ := ob H
  refine awr_n rfl (ca rfl rfl rfl (gJoin_c hr10) ⟨by first | rfl | exact lm _, trivial⟩ rfl rfl rfl rfl) ?_
  refine wk ?_
  cases H
  exact fin_ret (.cons (.tmp rfl) .nil) rfl rfl rfl
def iSummary_L1 (a0 : TNetwork) : (Int × List Int) → Option (Step (Int × List Int) (List Int))
  | (v1, v2) => bif ltB v1 ((a0.Devices.length : Nat) : Int) then (Option.bind (ix a0.Devices v1) fun x5 => bif apOk 8 (v2 ++ [((x5.Receiver.Delivered.length : Nat) : Int)]).length then (some (.next (WR (v1 + 1), (v2 ++ [((x5.Receiver.Delivered.length : Nat) : Int)])))) else none) else (some (.done v2))
def iSummary (a0 : TNetwork) : Option (List Int) :=
  Option.bind (iter (iSummary_L1 a0) FU (0, [a0.Now, ((a0.Flights.length : Nat) : Int), a0.Lost])) fun (v4 : List Int) => some v4
theorem iSummary_c {a0 : TNetwork} {r : List Int} (H : iSummary a0 = some r) : Fn Tryz.prog 26 [.agg (eTNetwork a0)] [.c (.own 3 1 (r.map eI) r.length)] := by
  refine fn_in Tryz.func26 rfl (by kernel_rfl) Tryz.ntmps26 rfl rfl rfl ?_
  refine wk ?_
  obtain ⟨v4, Hj, H⟩ := ob H
  refine awc_jblk ⟨[(3, .v (.c (.w 1 v4.length)))], [(1, .row 3 1 (v4.map eI) true true)], 2⟩ ?_ ?_
  · refine wk ?_
    refine awc_iter (fun (q : Int × List Int) => ⟨[(3, .v (.c (.w 1 q.2.length))), (15, .v (.c (.d false (.l (a0.Devices.map eTDevice))))), (16, tI ((a0.Devices.length : Nat) : Int)), (17, tI q.1)], [(1, .row 3 1 (q.2.map eI) true true)], 2⟩) Hj (weak_of ⟨wn rfl (by first | rfl | simp), rfl, rfl, rfl, rfl, rfl, rfl, rfl, trivial⟩ ⟨rfl, ⟨rfl, rfl⟩, trivial⟩) ?_
    rintro ⟨v1, v2⟩ o H
    try dsimp only
    refine wk ?_
    refine awc_cond rfl (fun h => ?_) (fun h => ?_)
    · have H := bt h H
      refine wk ?_
      obtain ⟨x5, hx5, H⟩ := ob H
      refine awr_n rfl (xdT (enc := eTDevice) hx5 (fun _ => rfl) rfl rfl rfl) ?_
      refine wk ?_
      obtain ⟨h, H⟩ := rq H
      refine awr_step rfl (apT (enc := eI) (ys := v2) (zs := [((x5.Receiver.Delivered.length : Nat) : Int)]) h rfl (fun _ => rfl) (by first | rfl | simp) (.w rfl (by first | rfl | exact lm _ | simp)) rfl rfl rfl rfl rfl rfl rfl rfl) ?_
      refine wk ?_
      cases H
      refine iq_n ?_
      exact weak_of ⟨wn rfl (by first | rfl | simp), rfl, rfl, rfl, rfl, rfl, rfl, rfl, trivial⟩ ⟨rfl, ⟨rfl, rfl⟩, trivial⟩
    · have H := bf h H
      refine wk ?_
      cases H
      refine iq_e (fun hq => ?_)
      cases hq
      refine wk ?_
      exact weak_of ⟨wn rfl (by first | rfl | simp), rfl, trivial⟩ ⟨rfl, ⟨rfl, rfl⟩, trivial⟩
  refine wk ?_
  cases H
  exact fin_ret (.cons (.tmp rfl) .nil) rfl rfl (by first | rfl | simp)
def iFormatSummary (a0 : TNetwork) : Option ByteArray :=
  Option.bind (iSummary a0) fun r1 => Option.bind (ijoinInts r1 ⟨#[32]⟩) fun r2 => some r2
theorem iFormatSummary_c {a0 : TNetwork} {r : ByteArray} (H : iFormatSummary a0 = some r) : Fn Tryz.prog 8 [.agg (eTNetwork a0)] [.c (.d (.str r))] := by
  refine fn_in Tryz.func8 rfl (by kernel_rfl) Tryz.ntmps8 rfl rfl rfl ?_
  refine wk ?_
  obtain ⟨r1, hr1, H⟩ := ob H
  refine awr_n rfl (ca rfl rfl rfl (iSummary_c hr1) trivial rfl rfl rfl rfl) ?_
  refine wk ?_
  obtain ⟨r2, hr2, H⟩ := ob H
  refine awr_n rfl (ca rfl rfl rfl (ijoinInts_c hr2) ⟨by first | rfl | exact lm _, trivial⟩ rfl rfl rfl rfl) ?_
  refine wk ?_
  cases H
  exact fin_ret (.cons (.tmp rfl) .nil) rfl rfl rfl
def isignalName (a0 : Int) : Option ByteArray :=
  bif eqB a0 1 then (some ⟨#[97, 116, 116, 97, 99, 104]⟩) else (bif eqB a0 2 then (some ⟨#[99, 104, 97, 108, 108, 101, 110, 103, 101]⟩) else (bif eqB a0 3 then (some ⟨#[114, 101, 115, 112, 111, 110, 115, 101]⟩) else (bif eqB a0 4 then (some ⟨#[97, 99, 99, 101, 112, 116]⟩) else (bif eqB a0 5 then (some ⟨#[112, 97, 116, 104, 45, 117, 112, 100, 97, 116, 101]⟩) else (bif eqB a0 6 then (some ⟨#[112, 97, 116, 104, 45, 97, 99, 107]⟩) else (bif eqB a0 7 then (some ⟨#[112, 97, 103, 101]⟩) else (bif eqB a0 8 then (some ⟨#[100, 97, 116, 97, 45, 97, 99, 107]⟩) else (some ⟨#[63]⟩))))))))
theorem isignalName_c {a0 : Int} {r : ByteArray} (H : isignalName a0 = some r) : Fn Tryz.prog 93 [aI a0] [.c (.d (.str r))] := by
  refine fn_in Tryz.func93 rfl (by kernel_rfl) Tryz.ntmps93 rfl rfl rfl ?_
  refine wk ?_
  refine awc_cond rfl (fun h => ?_) (fun h => ?_)
  · have H := bt h H
    refine wk ?_
    cases H
    exact fin_ret (.cons (.tmp rfl) .nil) rfl rfl rfl
  · have H := bf h H
    refine wk ?_
    refine awc_cond rfl (fun h => ?_) (fun h => ?_)
    · have H := bt h H
      refine wk ?_
      cases H
      exact fin_ret (.cons (.tmp rfl) .nil) rfl rfl rfl
    · have H := bf h H
      refine wk ?_
      refine awc_cond rfl (fun h => ?_) (fun h => ?_)
      · have H := bt h H
        refine wk ?_
        cases H
        exact fin_ret (.cons (.tmp rfl) .nil) rfl rfl rfl
      · have H := bf h H
        refine wk ?_
        refine awc_cond rfl (fun h => ?_) (fun h => ?_)
        · have H := bt h H
          refine wk ?_
          cases H
          exact fin_ret (.cons (.tmp rfl) .nil) rfl rfl rfl
        · have H := bf h H
          refine wk ?_
          refine awc_cond rfl (fun h => ?_) (fun h => ?_)
          · have H := bt h H
            refine wk ?_
            cases H
            exact fin_ret (.cons (.tmp rfl) .nil) rfl rfl rfl
          · have H := bf h H
            refine wk ?_
            refine awc_cond rfl (fun h => ?_) (fun h => ?_)
            · have H := bt h H
              refine wk ?_
              cases H
              exact fin_ret (.cons (.tmp rfl) .nil) rfl rfl rfl
            · have H := bf h H
              refine wk ?_
              refine awc_cond rfl (fun h => ?_) (fun h => ?_)
              · have H := bt h H
                refine wk ?_
                cases H
                exact fin_ret (.cons (.tmp rfl) .nil) rfl rfl rfl
              · have H := bf h H
                refine wk ?_
                refine awc_cond rfl (fun h => ?_) (fun h => ?_)
                · have H := bt h H
                  refine wk ?_
                  cases H
                  exact fin_ret (.cons (.tmp rfl) .nil) rfl rfl rfl
                · have H := bf h H
                  refine wk ?_
                  cases H
                  exact fin_ret (.cons (.tmp rfl) .nil) rfl rfl rfl
def iFormatSignal (a0 : TSignal) : Option ByteArray :=
  Option.bind (isignalName a0.Kind) fun r1 => bif saOk r1 (⟨#[64]⟩ : ByteArray) then (Option.bind (iFormatInt a0.Cell) fun r2 => bif saOk (r1 ++ (⟨#[64]⟩ : ByteArray)) r2 then (bif saOk ((r1 ++ (⟨#[64]⟩ : ByteArray)) ++ r2) (⟨#[58]⟩ : ByteArray) then (Option.bind (iFormatInt a0.Generation) fun r3 => bif saOk (((r1 ++ (⟨#[64]⟩ : ByteArray)) ++ r2) ++ (⟨#[58]⟩ : ByteArray)) r3 then (bif saOk ((((r1 ++ (⟨#[64]⟩ : ByteArray)) ++ r2) ++ (⟨#[58]⟩ : ByteArray)) ++ r3) (⟨#[46]⟩ : ByteArray) then (Option.bind (iFormatInt a0.Epoch) fun r4 => bif saOk (((((r1 ++ (⟨#[64]⟩ : ByteArray)) ++ r2) ++ (⟨#[58]⟩ : ByteArray)) ++ r3) ++ (⟨#[46]⟩ : ByteArray)) r4 then (some ((((((r1 ++ (⟨#[64]⟩ : ByteArray)) ++ r2) ++ (⟨#[58]⟩ : ByteArray)) ++ r3) ++ (⟨#[46]⟩ : ByteArray)) ++ r4)) else none) else none) else none) else none) else none) else none
theorem iFormatSignal_c {a0 : TSignal} {r : ByteArray} (H : iFormatSignal a0 = some r) : Fn Tryz.prog 54 [.agg (eTSignal a0)] [.c (.d (.str r))] := by
  refine fn_in Tryz.func54 rfl (by kernel_rfl) Tryz.ntmps54 rfl rfl rfl ?_
  refine wkd ?_
  obtain ⟨r1, hr1, H⟩ := ob H
  refine dr_n rfl (ca rfl rfl rfl (isignalName_c hr1) trivial rfl rfl rfl rfl) ?_
  refine wkd ?_
  obtain ⟨h, H⟩ := rq H
  refine dr_n rfl (saT h rfl rfl rfl) ?_
  refine wkd ?_
  obtain ⟨r2, hr2, H⟩ := ob H
  refine dr_n rfl (ca rfl rfl rfl (iFormatInt_c hr2) trivial rfl rfl rfl rfl) ?_
  refine wkd ?_
  obtain ⟨h, H⟩ := rq H
  refine dr_n rfl (saT h rfl rfl rfl) ?_
  refine wkd ?_
  obtain ⟨h, H⟩ := rq H
  refine dr_n rfl (saT h rfl rfl rfl) ?_
  refine wkd ?_
  obtain ⟨r3, hr3, H⟩ := ob H
  refine dr_n rfl (ca rfl rfl rfl (iFormatInt_c hr3) trivial rfl rfl rfl rfl) ?_
  refine wkd ?_
  obtain ⟨h, H⟩ := rq H
  refine dr_n rfl (saT h rfl rfl rfl) ?_
  refine wkd ?_
  obtain ⟨h, H⟩ := rq H
  refine dr_n rfl (saT h rfl rfl rfl) ?_
  refine wkd ?_
  obtain ⟨r4, hr4, H⟩ := ob H
  refine dr_n rfl (ca rfl rfl rfl (iFormatInt_c hr4) trivial rfl rfl rfl rfl) ?_
  refine wkd ?_
  obtain ⟨h, H⟩ := rq H
  refine dr_n rfl (saT h rfl rfl rfl) ?_
  refine wkd ?_
  cases H
  exact fin_ret (.cons (.tmp rfl) .nil) rfl rfl rfl
def iFormatFlight (a0 : TFlight) : Option ByteArray :=
  Option.bind (iFormatInt a0.Device) fun r1 => Option.bind (bif a0.Uplink then (bif saOk r1 (⟨#[94]⟩ : ByteArray) then (some (r1 ++ (⟨#[94]⟩ : ByteArray))) else none) else (bif saOk r1 (⟨#[118]⟩ : ByteArray) then (some (r1 ++ (⟨#[118]⟩ : ByteArray))) else none)) fun (v2 : ByteArray) => bif !a0.IsRadio then (Option.bind (iFormatSignal a0.Signal) fun r3 => bif saOk v2 r3 then (some (v2 ++ r3)) else none) else (bif saOk v2 (⟨#[100, 97, 116, 97, 64]⟩ : ByteArray) then (Option.bind (iFormatInt a0.Cell) fun r4 => bif saOk (v2 ++ (⟨#[100, 97, 116, 97, 64]⟩ : ByteArray)) r4 then (bif saOk ((v2 ++ (⟨#[100, 97, 116, 97, 64]⟩ : ByteArray)) ++ r4) (⟨#[58]⟩ : ByteArray) then (Option.bind (iFormatInt a0.Radio.Message.Count) fun r5 => bif saOk (((v2 ++ (⟨#[100, 97, 116, 97, 64]⟩ : ByteArray)) ++ r4) ++ (⟨#[58]⟩ : ByteArray)) r5 then (bif saOk ((((v2 ++ (⟨#[100, 97, 116, 97, 64]⟩ : ByteArray)) ++ r4) ++ (⟨#[58]⟩ : ByteArray)) ++ r5) (⟨#[46]⟩ : ByteArray) then (Option.bind (iFormatInt a0.Radio.Epoch) fun r6 => bif saOk (((((v2 ++ (⟨#[100, 97, 116, 97, 64]⟩ : ByteArray)) ++ r4) ++ (⟨#[58]⟩ : ByteArray)) ++ r5) ++ (⟨#[46]⟩ : ByteArray)) r6 then (some ((((((v2 ++ (⟨#[100, 97, 116, 97, 64]⟩ : ByteArray)) ++ r4) ++ (⟨#[58]⟩ : ByteArray)) ++ r5) ++ (⟨#[46]⟩ : ByteArray)) ++ r6)) else none) else none) else none) else none) else none) else none)
theorem iFormatFlight_c {a0 : TFlight} {r : ByteArray} (H : iFormatFlight a0 = some r) : Fn Tryz.prog 34 [.agg (eTFlight a0)] [.c (.d (.str r))] := by
  refine fn_in Tryz.func34 rfl (by kernel_rfl) Tryz.ntmps34 rfl rfl rfl ?_
  refine wkd ?_
  obtain ⟨r1, hr1, H⟩ := ob H
  refine awr_n rfl (ca rfl rfl rfl (iFormatInt_c hr1) trivial rfl rfl rfl rfl) ?_
  refine wkd ?_
  obtain ⟨v2, Hj, H⟩ := ob H
  refine awc_join ⟨[(1, .v (.c (.p 0 0))), (3, tS v2)], [(0, .var 79 [.d false (.i .i64 a0.Device), .d false (.b a0.Uplink), .d false (.b a0.IsRadio), .d false (.i .i64 a0.Cell), .d false (.i .i64 a0.Signal.Kind), .d false (.i .i64 a0.Signal.Cell), .d false (.i .i64 a0.Signal.Generation), .d false (.i .i64 a0.Signal.Epoch), .d false (.i .i64 a0.Signal.Number), .d false (.i .i64 a0.Signal.Vector.Rand), .d false (.i .i64 a0.Signal.Vector.Autn), .d false (.i .i64 a0.Signal.Vector.MAC), .d false (.i .i64 a0.Signal.Vector.Res), .d false (.i .i64 a0.Signal.Vector.Key), .d false (.i .i64 a0.Signal.MAC), .d false (.i .i64 a0.Radio.Generation), .d false (.i .i64 a0.Radio.Epoch), .d false (.i .i64 a0.Radio.Message.Direction), .d false (.i .i64 a0.Radio.Message.Count), .d false (.l (a0.Radio.Message.Data.map eU8)), .d false (.i .i64 a0.Radio.Message.MAC)])], 1⟩ ?_ ?_
  · have H := Hj
    refine wkd ?_
    refine awc_cond rfl (fun h => ?_) (fun h => ?_)
    · have H := bt h H
      refine wkd ?_
      obtain ⟨h, H⟩ := rq H
      refine awr_n rfl (saT h rfl rfl rfl) ?_
      refine wkd ?_
      cases H
      exact weak_of ⟨rfl, rfl, rfl, rfl, trivial⟩ ⟨rfl, ⟨rfl, rfl⟩, trivial⟩
    · have H := bf h H
      refine wkd ?_
      obtain ⟨h, H⟩ := rq H
      refine awr_n rfl (saT h rfl rfl rfl) ?_
      refine wkd ?_
      cases H
      exact weak_of ⟨rfl, rfl, rfl, rfl, trivial⟩ ⟨rfl, ⟨rfl, rfl⟩, trivial⟩
  refine wkd ?_
  refine awc_cond rfl (fun h => ?_) (fun h => ?_)
  · have H := bt h H
    refine wkd ?_
    obtain ⟨r3, hr3, H⟩ := ob H
    refine awr_n rfl (ca rfl rfl rfl (iFormatSignal_c hr3) trivial rfl rfl rfl rfl) ?_
    refine wkd ?_
    obtain ⟨h, H⟩ := rq H
    refine awr_n rfl (saT h rfl rfl rfl) ?_
    refine wkd ?_
    cases H
    exact fin_ret (.cons (.tmp rfl) .nil) rfl rfl rfl
  · have H := bf h H
    refine wkd ?_
    obtain ⟨h, H⟩ := rq H
    refine dr_n rfl (saT h rfl rfl rfl) ?_
    refine wkd ?_
    obtain ⟨r4, hr4, H⟩ := ob H
    refine dr_n rfl (ca rfl rfl rfl (iFormatInt_c hr4) trivial rfl rfl rfl rfl) ?_
    refine wkd ?_
    obtain ⟨h, H⟩ := rq H
    refine dr_n rfl (saT h rfl rfl rfl) ?_
    refine wkd ?_
    obtain ⟨h, H⟩ := rq H
    refine dr_n rfl (saT h rfl rfl rfl) ?_
    refine wkd ?_
    obtain ⟨r5, hr5, H⟩ := ob H
    refine dr_n rfl (ca rfl rfl rfl (iFormatInt_c hr5) trivial rfl rfl rfl rfl) ?_
    refine wkd ?_
    obtain ⟨h, H⟩ := rq H
    refine dr_n rfl (saT h rfl rfl rfl) ?_
    refine wkd ?_
    obtain ⟨h, H⟩ := rq H
    refine dr_n rfl (saT h rfl rfl rfl) ?_
    refine wkd ?_
    obtain ⟨r6, hr6, H⟩ := ob H
    refine dr_n rfl (ca rfl rfl rfl (iFormatInt_c hr6) trivial rfl rfl rfl rfl) ?_
    refine wkd ?_
    obtain ⟨h, H⟩ := rq H
    refine dr_n rfl (saT h rfl rfl rfl) ?_
    refine wkd ?_
    cases H
    exact fin_ret (.cons (.tmp rfl) .nil) rfl rfl rfl
def iFormatFlights_L1 (a0 : TNetwork) : (Int × List ByteArray) → Option (Step (Int × List ByteArray) (List ByteArray))
  | (v1, v2) => bif ltB v1 ((a0.Flights.length : Nat) : Int) then (Option.bind (ix a0.Flights v1) fun x7 => Option.bind (iFormatFlight x7) fun r8 => Option.bind (ix v2 v1) fun x9 => some (.next (WR (v1 + 1), (v2.set (v1).toNat r8)))) else (some (.done v2))
def iFormatFlights (a0 : TNetwork) : Option ByteArray :=
  bif eqB ((a0.Flights.length : Nat) : Int) 0 then (some ⟨#[45]⟩) else (bif mkOk 16 ((a0.Flights.length : Nat) : Int) ((a0.Flights.length : Nat) : Int) then (Option.bind (iter (iFormatFlights_L1 a0) FU (0, (List.replicate (((a0.Flights.length : Nat) : Int)).toNat (⟨#[]⟩ : ByteArray)))) fun (v6 : List ByteArray) => Option.bind (gJoin v6 ⟨#[59, 32]⟩) fun r10 => some r10) else none)
theorem iFormatFlights_c {a0 : TNetwork} {r : ByteArray} (H : iFormatFlights a0 = some r) : Fn Tryz.prog 11 [.agg (eTNetwork a0)] [.c (.d (.str r))] := by
  refine fn_in Tryz.func11 rfl (by kernel_rfl) Tryz.ntmps11 rfl rfl rfl ?_
  refine wk ?_
  refine awc_cond rfl (fun h => ?_) (fun h => ?_)
  · have H := bt h H
    refine wk ?_
    cases H
    exact fin_ret (.cons (.tmp rfl) .nil) rfl rfl rfl
  · have H := bf h H
    refine wk ?_
    obtain ⟨h, H⟩ := rq H
    refine awr_n rfl (mkT (enc := eS) (za := (⟨#[]⟩ : ByteArray)) h (by rfl) rfl rfl rfl rfl) ?_
    refine wk ?_
    obtain ⟨v6, Hj, H⟩ := ob H
    refine awc_jblk ⟨[(3, .v (.c (.w 1 v6.length)))], [(1, .row 9 1 (v6.map eS) true true)], 2⟩ ?_ ?_
    · refine wk ?_
      refine awc_iter (fun (q : Int × List ByteArray) => ⟨[(3, .v (.c (.w 1 q.2.length))), (15, .v (.c (.d false (.l (a0.Flights.map eTFlight))))), (16, tI ((a0.Flights.length : Nat) : Int)), (17, tI q.1)], [(1, .row 9 1 (q.2.map eS) true true)], 2⟩) Hj (weak_of ⟨wn rfl (by first | rfl | simp), rfl, rfl, rfl, rfl, rfl, rfl, rfl, trivial⟩ ⟨rfl, ⟨rfl, rfl⟩, trivial⟩) ?_
      rintro ⟨v1, v2⟩ o H
      try dsimp only
      refine wk ?_
      refine awc_cond rfl (fun h => ?_) (fun h => ?_)
      · have H := bt h H
        refine wk ?_
        obtain ⟨x7, hx7, H⟩ := ob H
        refine awr_n rfl (xdT (enc := eTFlight) hx7 (fun _ => rfl) rfl rfl rfl) ?_
        refine wk ?_
        obtain ⟨r8, hr8, H⟩ := ob H
        refine awr_n rfl (ca rfl rfl rfl (iFormatFlight_c hr8) trivial rfl rfl rfl rfl) ?_
        refine wk ?_
        obtain ⟨x9, hx9, H⟩ := ob H
        refine awr_n rfl (xwT hx9 (by first | rfl | simp) rfl rfl rfl) ?_
        refine wk ?_
        refine awr_step rfl (soT (enc := eS) (a' := r8) hx9 rfl rfl rfl rfl rfl rfl rfl) ?_
        refine wk ?_
        cases H
        refine iq_n ?_
        exact weak_of ⟨wn rfl (by first | rfl | simp), rfl, rfl, rfl, rfl, rfl, rfl, rfl, trivial⟩ ⟨rfl, ⟨rfl, rfl⟩, trivial⟩
      · have H := bf h H
        refine wk ?_
        cases H
        refine iq_e (fun hq => ?_)
        cases hq
        refine wk ?_
        exact weak_of ⟨wn rfl (by first | rfl | simp), rfl, trivial⟩ ⟨rfl, ⟨rfl, rfl⟩, trivial⟩
    refine wk ?_
    obtain ⟨r10, hr10, H⟩ := ob H
    refine awr_n rfl (ca rfl rfl rfl (gJoin_c hr10) ⟨by first | rfl | exact lm _, trivial⟩ rfl rfl rfl rfl) ?_
    refine wk ?_
    cases H
    exact fin_ret (.cons (.tmp rfl) .nil) rfl rfl rfl
end Go.AM
