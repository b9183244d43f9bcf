/-
  Own text: a part of the abstract machine for this seat (Hes). No statement is proved here.
-/
import Derived.Test.YtcejklimolcjiaaGreatHei
set_option linter.unusedVariables false
namespace Go.AM
open Go.Proofs
attribute [local irreducible] AWN NS AWO AWR AWC DR Weak iterQ
set_option maxRecDepth 100000
set_option maxHeartbeats 4000000
def sIsPrefixPath_L1 (a0 : TKeyPath) (a1 : TKeyPath) : Int → Option (Step (Int) (Bool))
  | v1 => bif ltB v1 ((a0.Steps.length : Nat) : Int) then (Option.bind (ix a0.Steps v1) fun x2 => Option.bind (ix a1.Steps v1) fun x3 => bif !eqB x2 x3 then (dn (some false)) else (some (.next (WR (v1 + 1))))) else (dn (some true))
def sIsPrefixPath (a0 : TKeyPath) (a1 : TKeyPath) : Option Bool :=
  bif ltB ((a1.Steps.length : Nat) : Int) ((a0.Steps.length : Nat) : Int) then (some false) else (iter (sIsPrefixPath_L1 a0 a1) FU 0)
theorem sIsPrefixPath_c {a0 : TKeyPath} {a1 : TKeyPath} {r : Bool} (H : sIsPrefixPath a0 a1 = some r) : Fn Tryz.prog 124 [.agg (eTKeyPath a0), .agg (eTKeyPath a1)] [.c (.d (.b r))] := by
  refine fn_in Tryz.func124 rfl (by kernel_rfl) Tryz.ntmps124 rfl rfl rfl ?_
  refine wkd ?_
  refine awc_cond rfl (fun h => ?_) (fun h => ?_)
  · have H := bt h H
    refine wkd ?_
    cases H
    exact fin_ret (.cons (.tmp rfl) .nil) rfl rfl rfl
  · have H := bf h H
    refine wkd ?_
    refine awc_iter (fun (q : Int) => ⟨[(2, .v (.c (.p 0 0))), (3, .v (.c (.p 1 0))), (5, tI q)], [(0, .var 92 [.d false (.l (a0.Steps.map eI))]), (1, .var 92 [.d false (.l (a1.Steps.map eI))])], 2⟩) H (weak_of ⟨rfl, rfl, rfl, rfl, rfl, rfl, trivial⟩ ⟨rfl, ⟨rfl, rfl⟩, rfl, ⟨rfl, rfl⟩, trivial⟩) ?_
    rintro v1 o H
    try dsimp only
    refine wkd ?_
    refine awc_cond rfl (fun h => ?_) (fun h => ?_)
    · have H := bt h H
      refine wkd ?_
      obtain ⟨x2, hx2, H⟩ := ob H
      refine dr_n rfl (xdT (enc := eI) hx2 (fun _ => rfl) rfl rfl rfl) ?_
      refine wkd ?_
      obtain ⟨x3, hx3, H⟩ := ob H
      refine dr_n rfl (xdT (enc := eI) hx3 (fun _ => rfl) rfl rfl rfl) ?_
      refine wkd ?_
      refine awc_cond rfl (fun h => ?_) (fun h => ?_)
      · have H := bt h H
        refine wkd ?_
        obtain ⟨r0, Hd, rfl⟩ := dnE H
        refine iq_r (fun hq => ?_)
        have H := Hd.trans (congrArg some hq)
        refine wkd ?_
        cases H
        exact fin_ret (.cons (.tmp rfl) .nil) rfl rfl rfl
      · have H := bf h H
        refine wkd ?_
        cases H
        refine iq_n ?_
        exact weak_of ⟨rfl, rfl, rfl, rfl, rfl, rfl, trivial⟩ ⟨rfl, ⟨rfl, rfl⟩, rfl, ⟨rfl, rfl⟩, trivial⟩
    · have H := bf h H
      refine wkd ?_
      obtain ⟨r0, Hd, rfl⟩ := dnE H
      refine iq_e (fun hq => ?_)
      have H := Hd.trans (congrArg some hq)
      refine wkd ?_
      cases H
      exact fin_ret (.cons (.tmp rfl) .nil) rfl rfl rfl
def sExposes_L1 (a0 : List TLeakedKey) (a1 : Int) (a2 : TKeyPath) : Int → Option (Step (Int) (Bool))
  | v1 => bif ltB v1 ((a0.length : Nat) : Int) then (Option.bind (ix a0 v1) fun x2 => Option.bind (bif eqB x2.Generation a1 then (Option.bind (ix a0 v1) fun x4 => Option.bind (sIsPrefixPath x4.Path a2) fun r5 => some r5) else (some false)) fun (v3 : Bool) => bif v3 then (dn (some true)) else (some (.next (WR (v1 + 1))))) else (dn (some false))
def sExposes (a0 : List TLeakedKey) (a1 : Int) (a2 : TKeyPath) : Option Bool :=
  iter (sExposes_L1 a0 a1 a2) FU 0
theorem sExposes_c {a0 : List TLeakedKey} {a1 : Int} {a2 : TKeyPath} {r : Bool} (H : sExposes a0 a1 a2 = some r) : Fn Tryz.prog 71 [aL (a0.map eTLeakedKey), aI a1, .agg (eTKeyPath a2)] [.c (.d (.b r))] := by
  refine fn_in Tryz.func71 rfl (by kernel_rfl) Tryz.ntmps71 rfl rfl rfl ?_
  refine wkd ?_
  refine awc_iter (fun (q : Int) => ⟨[(0, .v (.c (.d false (.l (a0.map eTLeakedKey))))), (1, tI a1), (5, .v (.c (.p 0 0))), (7, tI q)], [(0, .var 92 [.d false (.l (a2.Steps.map eI))])], 1⟩) H (weak_of ⟨rfl, rfl, rfl, rfl, rfl, rfl, rfl, rfl, trivial⟩ ⟨rfl, ⟨rfl, rfl⟩, trivial⟩) ?_
  rintro v1 o H
  try dsimp only
  refine wkd ?_
  refine awc_cond rfl (fun h => ?_) (fun h => ?_)
  · have H := bt h H
    refine wkd ?_
    obtain ⟨x2, hx2, H⟩ := ob H
    refine dr_n rfl (xdT (enc := eTLeakedKey) hx2 (fun _ => rfl) rfl rfl rfl) ?_
    refine wkd ?_
    obtain ⟨v3, Hj, H⟩ := ob H
    refine dr_join ⟨[(0, .v (.c (.d false (.l (a0.map eTLeakedKey))))), (1, tI a1), (5, .v (.c (.p 0 0))), (7, tI v1), (29, tB v3)], [(0, .var 92 [.d false (.l (a2.Steps.map eI))])], 1⟩ ?_ ?_
    · have H := Hj
      refine wkd ?_
      refine dg2 rfl rfl rfl (fun h => ?_) (fun h => ?_)
      · have H := bt h H
        refine wkd ?_
        obtain ⟨x4, hx4, H⟩ := ob H
        refine dr_ng rfl rfl rfl rfl (xdT (enc := eTLeakedKey) hx4 (fun _ => rfl) rfl rfl rfl) ?_
        refine wkd ?_
        obtain ⟨r5, hr5, H⟩ := ob H
        refine dr_ng rfl rfl rfl rfl (ca rfl rfl rfl (sIsPrefixPath_c hr5) trivial rfl rfl rfl rfl) ?_
        refine wkd ?_
        cases H
        exact weak_of ⟨rfl, rfl, rfl, rfl, rfl, rfl, rfl, rfl, rfl, rfl, trivial⟩ ⟨rfl, ⟨rfl, rfl⟩, trivial⟩
      · have H := bf h H
        refine wkd ?_
        cases H
        exact weak_of ⟨rfl, rfl, rfl, rfl, rfl, rfl, rfl, rfl, rfl, rfl, trivial⟩ ⟨rfl, ⟨rfl, rfl⟩, trivial⟩
    refine wkd ?_
    refine awc_cond rfl (fun h => ?_) (fun h => ?_)
    · have H := bt h H
      refine wkd ?_
      obtain ⟨r0, Hd, rfl⟩ := dnE H
      refine iq_r (fun hq => ?_)
      have H := Hd.trans (congrArg some hq)
      refine wkd ?_
      cases H
      exact fin_ret (.cons (.tmp rfl) .nil) rfl rfl rfl
    · have H := bf h H
      refine wkd ?_
      cases H
      refine iq_n ?_
      exact weak_of ⟨rfl, rfl, rfl, rfl, rfl, rfl, rfl, rfl, trivial⟩ ⟨rfl, ⟨rfl, rfl⟩, trivial⟩
  · have H := bf h H
    refine wkd ?_
    obtain ⟨r0, Hd, rfl⟩ := dnE H
    refine iq_e (fun hq => ?_)
    have H := Hd.trans (congrArg some hq)
    refine wkd ?_
    cases H
    exact fin_ret (.cons (.tmp rfl) .nil) rfl rfl rfl
def sRadioKeyPath (a0 : Int) : Option TKeyPath :=
  some (⟨[1, 3, a0]⟩ : TKeyPath)
theorem sRadioKeyPath_c {a0 : Int} {r : TKeyPath} (H : sRadioKeyPath a0 = some r) : Fn Tryz.prog 72 [aI a0] [.agg [.own 3 1 (r.Steps.map eI) r.Steps.length]] := by
  refine fn_in Tryz.func72 rfl (by kernel_rfl) Tryz.ntmps72 rfl rfl rfl ?_
  refine wk ?_
  cases H
  exact fin_ret (.cons (.cell rfl rfl rfl) .nil) rfl rfl (by first | rfl | simp)
def sl35Readable (a0 : List TLeakedKey) (a1 : TFlight) : Option Bool :=
  Option.bind (bif a1.IsRadio then (Option.bind (sRadioKeyPath a1.Radio.Epoch) fun r2 => Option.bind (sExposes a0 a1.Radio.Generation r2) fun r3 => some r3) else (some false)) fun (v1 : Bool) => some v1
theorem sl35Readable_c {a0 : List TLeakedKey} {a1 : TFlight} {r : Bool} (H : sl35Readable a0 a1 = some r) : Fn Tryz.prog 32 [aL (a0.map eTLeakedKey), .agg (eTFlight a1)] [.c (.d (.b r))] := by
  refine fn_in Tryz.func32 rfl (by kernel_rfl) Tryz.ntmps32 rfl rfl rfl ?_
  refine wkd ?_
  obtain ⟨v1, Hj, H⟩ := ob H
  refine dr_join ⟨[(4, tB v1)], [], 0⟩ ?_ ?_
  · have H := Hj
    refine wkd ?_
    refine dg2 rfl rfl rfl (fun h => ?_) (fun h => ?_)
    · have H := bt h H
      refine wkd ?_
      obtain ⟨r2, hr2, H⟩ := ob H
      refine dr_ng rfl rfl rfl rfl (ca rfl rfl rfl (sRadioKeyPath_c hr2) trivial rfl rfl rfl rfl) ?_
      refine wkd ?_
      obtain ⟨r3, hr3, H⟩ := ob H
      refine dr_ng rfl rfl rfl rfl (ca rfl rfl rfl (sExposes_c hr3) ⟨by first | rfl | exact lm _, trivial⟩ rfl rfl rfl rfl) ?_
      refine wkd ?_
      cases H
      exact weak_of ⟨rfl, rfl, trivial⟩ trivial
    · have H := bf h H
      refine wkd ?_
      cases H
      exact weak_of ⟨rfl, rfl, trivial⟩ trivial
  refine wkd ?_
  cases H
  exact fin_ret (.cons (.tmp rfl) .nil) rfl rfl rfl
def sReadableFlights_L1 (a0 : TNetwork) (a1 : List TLeakedKey) (a2 : Int) : (Int × List Int) → Option (Step (Int × List Int) (List Int))
  | (v1, v2) => bif ltB v1 ((a0.Flights.length : Nat) : Int) then (Option.bind (ix a0.Flights v1) fun x9 => Option.bind (bif eqB x9.Device a2 then (Option.bind (ix a0.Flights v1) fun x11 => Option.bind (sl35Readable a1 x11) fun r12 => some r12) else (some false)) fun (v10 : Bool) => Option.bind (bif v10 then (bif apOk 8 (v2 ++ [v1]).length then (some (v2 ++ [v1])) else none) else (some v2)) fun (v13 : List Int) => some (.next (WR (v1 + 1), v13))) else (some (.done v2))
def sReadableFlights (a0 : TNetwork) (a1 : List TLeakedKey) (a2 : Int) : Option (List Int) :=
  Option.bind (iter (sReadableFlights_L1 a0 a1 a2) FU (0, ([] : List Int))) fun (v8 : List Int) => some v8
theorem sReadableFlights_c {a0 : TNetwork} {a1 : List TLeakedKey} {a2 : Int} {r : List Int} (H : sReadableFlights a0 a1 a2 = some r) : Fn Tryz.prog 8 [.agg (eTNetwork a0), aL (a1.map eTLeakedKey), aI a2] [.c (.own 3 1 (r.map eI) r.length)] := by
  refine fn_in Tryz.func8 rfl (by kernel_rfl) Tryz.ntmps8 rfl rfl rfl ?_
  refine wk ?_
  obtain ⟨v8, Hj, H⟩ := ob H
  refine awc_jblk ⟨[(7, .v (.c (.w 1 v8.length)))], [(1, .row 3 1 (v8.map eI) true true)], 2⟩ ?_ ?_
  · refine wk ?_
    refine awc_iter (fun (q : Int × List Int) => ⟨[(1, .v (.c (.d false (.l (a1.map eTLeakedKey))))), (2, tI a2), (3, .v (.c (.p 0 0))), (7, .v (.c (.w 1 q.2.length))), (8, tI q.1)], [(0, .var 47 [.d false (.l (a0.Map.Cells.map eTCell)), .d false (.l (a0.Devices.map eTDevice)), .d false (.l (a0.Sessions.map eTSession)), .d false (.l (a0.Accounts.map eTAccount)), .d false (.l (a0.Flights.map eTFlight)), .d false (.i .i64 a0.DownCells), .d false (.i .i64 a0.Core.Size), .d false (.i .i64 a0.Core.UpMask), .d false (.i .i64 a0.Now), .d false (.i .i64 a0.Lost)]), (1, .row 3 1 (q.2.map eI) true true)], 2⟩) Hj (weak_of ⟨rfl, rfl, rfl, rfl, rfl, rfl, wn rfl (by first | rfl | simp), rfl, rfl, rfl, trivial⟩ ⟨rfl, ⟨rfl, rfl⟩, rfl, ⟨rfl, rfl⟩, trivial⟩) ?_
    rintro ⟨v1, v2⟩ o H
    try dsimp only
    refine wk ?_
    refine awc_cond rfl (fun h => ?_) (fun h => ?_)
    · have H := bt h H
      refine wk ?_
      obtain ⟨x9, hx9, H⟩ := ob H
      refine awr_n rfl (xdT (enc := eTFlight) hx9 (fun _ => rfl) rfl rfl rfl) ?_
      refine wk ?_
      obtain ⟨v10, Hj, H⟩ := ob H
      refine awr_join ⟨[(1, .v (.c (.d false (.l (a1.map eTLeakedKey))))), (2, tI a2), (3, .v (.c (.p 0 0))), (7, .v (.c (.w 1 v2.length))), (8, tI v1), (33, tB v10)], [(0, .var 47 [.d false (.l (a0.Map.Cells.map eTCell)), .d false (.l (a0.Devices.map eTDevice)), .d false (.l (a0.Sessions.map eTSession)), .d false (.l (a0.Accounts.map eTAccount)), .d false (.l (a0.Flights.map eTFlight)), .d false (.i .i64 a0.DownCells), .d false (.i .i64 a0.Core.Size), .d false (.i .i64 a0.Core.UpMask), .d false (.i .i64 a0.Now), .d false (.i .i64 a0.Lost)]), (1, .row 3 1 (v2.map eI) true true)], 2⟩ ?_ ?_
      · have H := Hj
        refine wk ?_
        refine g2 rfl rfl rfl (fun h => ?_) (fun h => ?_)
        · have H := bt h H
          refine wk ?_
          obtain ⟨x11, hx11, H⟩ := ob H
          refine awr_ng rfl rfl rfl rfl (xdT (enc := eTFlight) hx11 (fun _ => rfl) rfl rfl rfl) ?_
          refine wk ?_
          obtain ⟨r12, hr12, H⟩ := ob H
          refine awr_ng rfl rfl rfl rfl (ca rfl rfl rfl (sl35Readable_c hr12) trivial rfl rfl rfl rfl) ?_
          refine wk ?_
          cases H
          exact weak_of ⟨rfl, rfl, rfl, rfl, rfl, rfl, wn rfl (by first | rfl | simp), rfl, rfl, rfl, rfl, rfl, trivial⟩ ⟨rfl, ⟨rfl, rfl⟩, rfl, ⟨rfl, rfl⟩, trivial⟩
        · have H := bf h H
          refine wk ?_
          cases H
          exact weak_of ⟨rfl, rfl, rfl, rfl, rfl, rfl, wn rfl (by first | rfl | simp), rfl, rfl, rfl, rfl, rfl, trivial⟩ ⟨rfl, ⟨rfl, rfl⟩, rfl, ⟨rfl, rfl⟩, trivial⟩
      refine wk ?_
      obtain ⟨v13, Hj, H⟩ := ob H
      refine awc_join ⟨[(1, .v (.c (.d false (.l (a1.map eTLeakedKey))))), (2, tI a2), (3, .v (.c (.p 0 0))), (7, .v (.c (.w 1 v13.length))), (8, tI v1)], [(0, .var 47 [.d false (.l (a0.Map.Cells.map eTCell)), .d false (.l (a0.Devices.map eTDevice)), .d false (.l (a0.Sessions.map eTSession)), .d false (.l (a0.Accounts.map eTAccount)), .d false (.l (a0.Flights.map eTFlight)), .d false (.i .i64 a0.DownCells), .d false (.i .i64 a0.Core.Size), .d false (.i .i64 a0.Core.UpMask), .d false (.i .i64 a0.Now), .d false (.i .i64 a0.Lost)]), (1, .row 3 1 (v13.map eI) true true)], 2⟩ ?_ ?_
      · have H := Hj
        refine wk ?_
        refine awc_cond rfl (fun h => ?_) (fun h => ?_)
        · have H := bt h H
          refine wk ?_
          obtain ⟨h, H⟩ := rq H
          refine awr_step rfl (apT (enc := eI) (ys := v2) (zs := [v1]) h rfl (fun _ => rfl) (by first | rfl | simp) (.w rfl (by first | rfl | exact lm _ | simp)) rfl rfl rfl rfl rfl rfl rfl rfl) ?_
          refine wk ?_
          cases H
          exact weak_of ⟨rfl, rfl, rfl, rfl, rfl, rfl, wn rfl (by first | rfl | simp), rfl, rfl, rfl, trivial⟩ ⟨rfl, ⟨rfl, rfl⟩, rfl, ⟨rfl, rfl⟩, trivial⟩
        · have H := bf h H
          refine wk ?_
          cases H
          exact weak_of ⟨rfl, rfl, rfl, rfl, rfl, rfl, wn rfl (by first | rfl | simp), rfl, rfl, rfl, trivial⟩ ⟨rfl, ⟨rfl, rfl⟩, rfl, ⟨rfl, rfl⟩, trivial⟩
      refine wk ?_
      cases H
      refine iq_n ?_
      exact weak_of ⟨rfl, rfl, rfl, rfl, rfl, rfl, wn rfl (by first | rfl | simp), rfl, rfl, rfl, trivial⟩ ⟨rfl, ⟨rfl, rfl⟩, rfl, ⟨rfl, rfl⟩, trivial⟩
    · have H := bf h H
      refine wk ?_
      cases H
      refine iq_e (fun hq => ?_)
      cases hq
      refine wk ?_
      exact weak_of ⟨wn rfl (by first | rfl | simp), rfl, trivial⟩ ⟨rfl, ⟨rfl, rfl⟩, trivial⟩
  refine wk ?_
  cases H
  exact fin_ret (.cons (.tmp rfl) .nil) rfl rfl (by first | rfl | simp)
def sl1In (a0 : Int) (a1 : Int) (a2 : Int) : Option Bool :=
  Option.bind (bif leB a1 a0 then (some (leB a0 a2)) else (some false)) fun (v1 : Bool) => some v1
theorem sl1In_c {a0 : Int} {a1 : Int} {a2 : Int} {r : Bool} (H : sl1In a0 a1 a2 = some r) : Fn Tryz.prog 53 [aI a0, aI a1, aI a2] [.c (.d (.b r))] := by
  refine fn_in Tryz.func53 rfl (by kernel_rfl) Tryz.ntmps53 rfl rfl rfl ?_
  refine wk ?_
  obtain ⟨v1, Hj, H⟩ := ob H
  refine awr_join ⟨[(6, tB v1)], [], 0⟩ ?_ ?_
  · have H := Hj
    refine wk ?_
    refine g2 rfl rfl rfl (fun h => ?_) (fun h => ?_)
    · have H := bt h H
      refine wk ?_
      cases H
      exact weak_of ⟨rfl, rfl, trivial⟩ trivial
    · have H := bf h H
      refine wk ?_
      cases H
      exact weak_of ⟨rfl, rfl, trivial⟩ trivial
  refine wk ?_
  cases H
  exact fin_ret (.cons (.tmp rfl) .nil) rfl rfl rfl
def sMin (a0 : Int) (a1 : Int) : Option Int :=
  bif ltB a1 a0 then (some a1) else (some a0)
theorem sMin_c {a0 : Int} {a1 : Int} {r : Int} (H : sMin a0 a1 = some r) : Fn Tryz.prog 163 [aI a0, aI a1] [.c (.d (.i .i64 r))] := by
  refine fn_in Tryz.func163 rfl (by kernel_rfl) Tryz.ntmps163 rfl rfl rfl ?_
  refine wk ?_
  refine awc_cond rfl (fun h => ?_) (fun h => ?_)
  · have H := bt h H
    refine wk ?_
    cases H
    exact fin_ret (.cons (.tmp rfl) .nil) rfl rfl rfl
  · have H := bf h H
    refine wk ?_
    cases H
    exact fin_ret (.cons (.tmp rfl) .nil) rfl rfl rfl
def sl34Has (a0 : TNetwork) (a1 : Int) : Option Bool :=
  Option.bind (sMin ((a0.Devices.length : Nat) : Int) ((a0.Sessions.length : Nat) : Int)) fun r1 => Option.bind (sl1In a1 0 (WR (r1 - 1))) fun r2 => some r2
theorem sl34Has_c {a0 : TNetwork} {a1 : Int} {r : Bool} (H : sl34Has a0 a1 = some r) : Fn Tryz.prog 97 [.agg (eTNetwork a0), aI a1] [.c (.d (.b r))] := by
  refine fn_in Tryz.func97 rfl (by kernel_rfl) Tryz.ntmps97 rfl rfl rfl ?_
  refine wk ?_
  obtain ⟨r1, hr1, H⟩ := ob H
  refine awr_n rfl (ca rfl rfl rfl (sMin_c hr1) trivial rfl rfl rfl rfl) ?_
  refine wk ?_
  obtain ⟨r2, hr2, H⟩ := ob H
  refine awr_n rfl (ca rfl rfl rfl (sl1In_c hr2) trivial rfl rfl rfl rfl) ?_
  refine wk ?_
  cases H
  exact fin_ret (.cons (.tmp rfl) .nil) rfl rfl rfl
def sEqualBytes (a0 : List Int) (a1 : List Int) : Option Bool :=
  some (strB (bsOf a0) (bsOf a1))
theorem sEqualBytes_c {a0 : List Int} {a1 : List Int} {r : Bool} (H : sEqualBytes a0 a1 = some r) : Fn Tryz.prog 202 [aL (a0.map eU8), aL (a1.map eU8)] [.c (.d (.b r))] := by
  refine fn_in Tryz.func202 rfl (by kernel_rfl) Tryz.ntmps202 rfl rfl rfl ?_
  refine wk ?_
  cases H
  exact fin_ret (.cons (.tmp rfl) .nil) rfl rfl rfl
def sl15Same_L1 (a0 : List TPayload) (a1 : List TPayload) : Int → Option (Step (Int) (Bool))
  | v1 => bif ltB v1 ((a0.length : Nat) : Int) then (Option.bind (ix a0 v1) fun x2 => Option.bind (ix a1 v1) fun x3 => Option.bind (sEqualBytes x2.Data x3.Data) fun r4 => bif !r4 then (dn (some false)) else (some (.next (WR (v1 + 1))))) else (dn (some true))
def sl15Same (a0 : List TPayload) (a1 : List TPayload) : Option Bool :=
  bif !eqB ((a0.length : Nat) : Int) ((a1.length : Nat) : Int) then (some false) else (iter (sl15Same_L1 a0 a1) FU 0)
theorem sl15Same_c {a0 : List TPayload} {a1 : List TPayload} {r : Bool} (H : sl15Same a0 a1 = some r) : Fn Tryz.prog 164 [aL (a0.map eTPayload), aL (a1.map eTPayload)] [.c (.d (.b r))] := by
  refine fn_in Tryz.func164 rfl (by kernel_rfl) Tryz.ntmps164 rfl rfl rfl ?_
  refine wkd ?_
  refine awc_cond rfl (fun h => ?_) (fun h => ?_)
  · have H := bt h H
    refine wkd ?_
    cases H
    exact fin_ret (.cons (.tmp rfl) .nil) rfl rfl rfl
  · have H := bf h H
    refine wkd ?_
    refine awc_iter (fun (q : Int) => ⟨[(0, .v (.c (.d false (.l (a0.map eTPayload))))), (1, .v (.c (.d false (.l (a1.map eTPayload))))), (5, tI q)], [], 0⟩) H (weak_of ⟨rfl, rfl, rfl, rfl, rfl, rfl, trivial⟩ trivial) ?_
    rintro v1 o H
    try dsimp only
    refine wkd ?_
    refine awc_cond rfl (fun h => ?_) (fun h => ?_)
    · have H := bt h H
      refine wkd ?_
      obtain ⟨x2, hx2, H⟩ := ob H
      refine dr_n rfl (xdT (enc := eTPayload) hx2 (fun _ => rfl) rfl rfl rfl) ?_
      refine wkd ?_
      obtain ⟨x3, hx3, H⟩ := ob H
      refine dr_n rfl (xdT (enc := eTPayload) hx3 (fun _ => rfl) rfl rfl rfl) ?_
      refine wkd ?_
      obtain ⟨r4, hr4, H⟩ := ob H
      refine dr_n rfl (ca rfl rfl rfl (sEqualBytes_c hr4) trivial rfl rfl rfl rfl) ?_
      refine wkd ?_
      refine awc_cond rfl (fun h => ?_) (fun h => ?_)
      · have H := bt h H
        refine wkd ?_
        obtain ⟨r0, Hd, rfl⟩ := dnE H
        refine iq_r (fun hq => ?_)
        have H := Hd.trans (congrArg some hq)
        refine wkd ?_
        cases H
        exact fin_ret (.cons (.tmp rfl) .nil) rfl rfl rfl
      · have H := bf h H
        refine wkd ?_
        cases H
        refine iq_n ?_
        exact weak_of ⟨rfl, rfl, rfl, rfl, rfl, rfl, trivial⟩ trivial
    · have H := bf h H
      refine wkd ?_
      obtain ⟨r0, Hd, rfl⟩ := dnE H
      refine iq_e (fun hq => ?_)
      have H := Hd.trans (congrArg some hq)
      refine wkd ?_
      cases H
      exact fin_ret (.cons (.tmp rfl) .nil) rfl rfl rfl
def sIsPrefixOf (a0 : List TPayload) (a1 : List TPayload) : Option Bool :=
  Option.bind (bif leB ((a0.length : Nat) : Int) ((a1.length : Nat) : Int) then (bif slOk a1 0 ((a0.length : Nat) : Int) then (Option.bind (sl15Same a0 (a1.take (((a0.length : Nat) : Int)).toNat)) fun r2 => some r2) else none) else (some false)) fun (v1 : Bool) => some v1
theorem sIsPrefixOf_c {a0 : List TPayload} {a1 : List TPayload} {r : Bool} (H : sIsPrefixOf a0 a1 = some r) : Fn Tryz.prog 98 [aL (a0.map eTPayload), aL (a1.map eTPayload)] [.c (.d (.b r))] := by
  refine fn_in Tryz.func98 rfl (by kernel_rfl) Tryz.ntmps98 rfl rfl rfl ?_
  refine wk ?_
  obtain ⟨v1, Hj, H⟩ := ob H
  refine awr_join ⟨[(4, tB v1)], [], 0⟩ ?_ ?_
  · have H := Hj
    refine wk ?_
    refine g2 rfl rfl rfl (fun h => ?_) (fun h => ?_)
    · have H := bt h H
      refine wk ?_
      obtain ⟨h, H⟩ := rq H
      refine awr_ng rfl rfl rfl rfl (cdhT (enc := eTPayload) h (fun _ => rfl) rfl rfl rfl) ?_
      refine wk ?_
      obtain ⟨r2, hr2, H⟩ := ob H
      refine awr_ng rfl rfl rfl rfl (ca rfl rfl rfl (sl15Same_c hr2) trivial rfl rfl rfl rfl) ?_
      refine wk ?_
      cases H
      exact weak_of ⟨rfl, rfl, trivial⟩ trivial
    · have H := bf h H
      refine wk ?_
      cases H
      exact weak_of ⟨rfl, rfl, trivial⟩ trivial
  refine wk ?_
  cases H
  exact fin_ret (.cons (.tmp rfl) .nil) rfl rfl rfl
def sDeliveredInOrder (a0 : TNetwork) (a1 : Int) : Option Bool :=
  Option.bind (sl34Has a0 a1) fun r1 => Option.bind (bif r1 then (Option.bind (ix a0.Devices a1) fun x3 => Option.bind (ix a0.Sessions a1) fun x4 => Option.bind (sIsPrefixOf x3.Receiver.Delivered x4.Submitted) fun r5 => some r5) else (some false)) fun (v2 : Bool) => some v2
theorem sDeliveredInOrder_c {a0 : TNetwork} {a1 : Int} {r : Bool} (H : sDeliveredInOrder a0 a1 = some r) : Fn Tryz.prog 57 [.agg (eTNetwork a0), aI a1] [.c (.d (.b r))] := by
  refine fn_in Tryz.func57 rfl (by kernel_rfl) Tryz.ntmps57 rfl rfl rfl ?_
  refine wkd ?_
  obtain ⟨r1, hr1, H⟩ := ob H
  refine dr_n rfl (ca rfl rfl rfl (sl34Has_c hr1) trivial rfl rfl rfl rfl) ?_
  refine wkd ?_
  obtain ⟨v2, Hj, H⟩ := ob H
  refine dr_join ⟨[(4, tB v2)], [], 0⟩ ?_ ?_
  · have H := Hj
    refine wkd ?_
    refine dg2 rfl rfl rfl (fun h => ?_) (fun h => ?_)
    · have H := bt h H
      refine wkd ?_
      obtain ⟨x3, hx3, H⟩ := ob H
      refine dr_ng rfl rfl rfl rfl (xdT (enc := eTDevice) hx3 (fun _ => rfl) rfl rfl rfl) ?_
      refine wkd ?_
      obtain ⟨x4, hx4, H⟩ := ob H
      refine dr_ng rfl rfl rfl rfl (xdT (enc := eTSession) hx4 (fun _ => rfl) rfl rfl rfl) ?_
      refine wkd ?_
      obtain ⟨r5, hr5, H⟩ := ob H
      refine dr_ng rfl rfl rfl rfl (ca rfl rfl rfl (sIsPrefixOf_c hr5) trivial rfl rfl rfl rfl) ?_
      refine wkd ?_
      cases H
      exact weak_of ⟨rfl, rfl, trivial⟩ trivial
    · have H := bf h H
      refine wkd ?_
      cases H
      exact weak_of ⟨rfl, rfl, trivial⟩ trivial
  refine wkd ?_
  cases H
  exact fin_ret (.cons (.tmp rfl) .nil) rfl rfl rfl
def sl34Account (a0 : TNetwork) (a1 : Int) : Option Bool :=
  Option.bind (sMin ((a0.Accounts.length : Nat) : Int) ((a0.Sessions.length : Nat) : Int)) fun r1 => Option.bind (sl1In a1 0 (WR (r1 - 1))) fun r2 => some r2
theorem sl34Account_c {a0 : TNetwork} {a1 : Int} {r : Bool} (H : sl34Account a0 a1 = some r) : Fn Tryz.prog 99 [.agg (eTNetwork a0), aI a1] [.c (.d (.b r))] := by
  refine fn_in Tryz.func99 rfl (by kernel_rfl) Tryz.ntmps99 rfl rfl rfl ?_
  refine wk ?_
  obtain ⟨r1, hr1, H⟩ := ob H
  refine awr_n rfl (ca rfl rfl rfl (sMin_c hr1) trivial rfl rfl rfl rfl) ?_
  refine wk ?_
  obtain ⟨r2, hr2, H⟩ := ob H
  refine awr_n rfl (ca rfl rfl rfl (sl1In_c hr2) trivial rfl rfl rfl rfl) ?_
  refine wk ?_
  cases H
  exact fin_ret (.cons (.tmp rfl) .nil) rfl rfl rfl
def sChargedBytes (a0 : TNetwork) (a1 : Int) : Option Int :=
  Option.bind (sl34Account a0 a1) fun r1 => bif !r1 then (some (-1)) else (Option.bind (ix a0.Accounts a1) fun x2 => Option.bind (ix a0.Sessions a1) fun x3 => some (WR (x2.Spent + x3.Usage.Used)))
theorem sChargedBytes_c {a0 : TNetwork} {a1 : Int} {r : Int} (H : sChargedBytes a0 a1 = some r) : Fn Tryz.prog 100 [.agg (eTNetwork a0), aI a1] [.c (.d (.i .i64 r))] := by
  refine fn_in Tryz.func100 rfl (by kernel_rfl) Tryz.ntmps100 rfl rfl rfl ?_
  refine wkd ?_
  obtain ⟨r1, hr1, H⟩ := ob H
  refine awr_n rfl (ca rfl rfl rfl (sl34Account_c hr1) trivial rfl rfl rfl rfl) ?_
  refine wkd ?_
  refine awc_cond rfl (fun h => ?_) (fun h => ?_)
  · have H := bt h H
    refine wkd ?_
    cases H
    exact fin_ret (.cons (.tmp rfl) .nil) rfl rfl rfl
  · have H := bf h H
    refine wkd ?_
    obtain ⟨x2, hx2, H⟩ := ob H
    refine dr_n rfl (xdT (enc := eTAccount) hx2 (fun _ => rfl) rfl rfl rfl) ?_
    refine wkd ?_
    obtain ⟨x3, hx3, H⟩ := ob H
    refine dr_n rfl (xdT (enc := eTSession) hx3 (fun _ => rfl) rfl rfl rfl) ?_
    refine wkd ?_
    cases H
    exact fin_ret (.cons (.tmp rfl) .nil) rfl rfl rfl
def sBytesOfFirst_L1 (a0 : TSession) (a1 : Int) : (Int × Int) → Option (Step (Int × Int) (Int))
  | (v1, v2) => Option.bind (bif ltB v2 ((a0.Submitted.length : Nat) : Int) then (some (ltB v2 a1)) else (some false)) fun (v6 : Bool) => bif v6 then (Option.bind (ix a0.Submitted v2) fun x7 => some (.next (WR (v1 + ((x7.Data.length : Nat) : Int)), WR (v2 + 1)))) else (some (.done v1))
def sBytesOfFirst (a0 : TSession) (a1 : Int) : Option Int :=
  Option.bind (iter (sBytesOfFirst_L1 a0 a1) FU (0, 0)) fun (v5 : Int) => some v5
theorem sBytesOfFirst_c {a0 : TSession} {a1 : Int} {r : Int} (H : sBytesOfFirst a0 a1 = some r) : Fn Tryz.prog 101 [.agg (eTSession a0), aI a1] [.c (.d (.i .i64 r))] := by
  refine fn_in Tryz.func101 rfl (by kernel_rfl) Tryz.ntmps101 rfl rfl rfl ?_
  refine wk ?_
  obtain ⟨v5, Hj, H⟩ := ob H
  refine awc_jblk ⟨[(5, tI v5)], [], 0⟩ ?_ ?_
  · refine wk ?_
    refine awc_iter (fun (q : Int × Int) => ⟨[(1, tI a1), (2, .v (.c (.p 0 0))), (5, tI q.1), (6, tI q.2)], [(0, .var 125 [.d false (.i .i64 a0.Record.ID.Network), .d false (.i .i64 a0.Record.ID.Number), .d false (.i .i64 a0.Record.Key), .d false (.i .i64 a0.Record.Seq), .d false (.i .i64 a0.Plan.RateLimit), .d false (.i .i64 a0.Plan.BestClass), .d false (.i .i64 a0.Plan.GrantSize), .d false (.l (a0.Plan.RoamingNetworks.map eI)), .d false (.i .i64 a0.State), .d false (.i .i64 a0.Pending.Rand), .d false (.i .i64 a0.Pending.Autn), .d false (.i .i64 a0.Pending.MAC), .d false (.i .i64 a0.Pending.Res), .d false (.i .i64 a0.Pending.Key), .d false (.i .i64 a0.PendingSeq), .d false (.i .i64 a0.Generation), .d false (.i .i64 a0.RootKey), .d false (.i .i64 a0.Epoch), .d false (.i .i64 a0.Cell), .d false (.i .i64 a0.Quiet), .d false (.i .i64 a0.Page.Area), .d false (.i .i64 a0.Page.Attempt), .d false (.i .i64 a0.Page.Wait), .d false (.l (a0.Submitted.map eTPayload)), .d false (.i .i64 a0.Window.Next), .d false (.l (a0.Window.Unacked.map eTNumberedPacket)), .d false (.i .i64 a0.Retry), .d false (.i .i64 a0.Usage.SessionID), .d false (.i .i64 a0.Usage.Granted), .d false (.i .i64 a0.Usage.Used)])], 1⟩) Hj (weak_of ⟨rfl, rfl, rfl, rfl, rfl, rfl, rfl, rfl, trivial⟩ ⟨rfl, ⟨rfl, rfl⟩, trivial⟩) ?_
    rintro ⟨v1, v2⟩ o H
    try dsimp only
    refine wk ?_
    obtain ⟨v6, Hj, H⟩ := ob H
    refine awr_join ⟨[(1, tI a1), (2, .v (.c (.p 0 0))), (5, tI v1), (6, tI v2), (16, tB v6)], [(0, .var 125 [.d false (.i .i64 a0.Record.ID.Network), .d false (.i .i64 a0.Record.ID.Number), .d false (.i .i64 a0.Record.Key), .d false (.i .i64 a0.Record.Seq), .d false (.i .i64 a0.Plan.RateLimit), .d false (.i .i64 a0.Plan.BestClass), .d false (.i .i64 a0.Plan.GrantSize), .d false (.l (a0.Plan.RoamingNetworks.map eI)), .d false (.i .i64 a0.State), .d false (.i .i64 a0.Pending.Rand), .d false (.i .i64 a0.Pending.Autn), .d false (.i .i64 a0.Pending.MAC), .d false (.i .i64 a0.Pending.Res), .d false (.i .i64 a0.Pending.Key), .d false (.i .i64 a0.PendingSeq), .d false (.i .i64 a0.Generation), .d false (.i .i64 a0.RootKey), .d false (.i .i64 a0.Epoch), .d false (.i .i64 a0.Cell), .d false (.i .i64 a0.Quiet), .d false (.i .i64 a0.Page.Area), .d false (.i .i64 a0.Page.Attempt), .d false (.i .i64 a0.Page.Wait), .d false (.l (a0.Submitted.map eTPayload)), .d false (.i .i64 a0.Window.Next), .d false (.l (a0.Window.Unacked.map eTNumberedPacket)), .d false (.i .i64 a0.Retry), .d false (.i .i64 a0.Usage.SessionID), .d false (.i .i64 a0.Usage.Granted), .d false (.i .i64 a0.Usage.Used)])], 1⟩ ?_ ?_
    · have H := Hj
      refine wk ?_
      refine g2 rfl rfl rfl (fun h => ?_) (fun h => ?_)
      · have H := bt h H
        refine wk ?_
        cases H
        exact weak_of ⟨rfl, rfl, rfl, rfl, rfl, rfl, rfl, rfl, rfl, rfl, trivial⟩ ⟨rfl, ⟨rfl, rfl⟩, trivial⟩
      · have H := bf h H
        refine wk ?_
        cases H
        exact weak_of ⟨rfl, rfl, rfl, rfl, rfl, rfl, rfl, rfl, rfl, rfl, trivial⟩ ⟨rfl, ⟨rfl, rfl⟩, trivial⟩
    refine wk ?_
    refine awc_cond rfl (fun h => ?_) (fun h => ?_)
    · have H := bt h H
      refine wk ?_
      obtain ⟨x7, hx7, H⟩ := ob H
      refine awr_n rfl (xdT (enc := eTPayload) hx7 (fun _ => rfl) rfl rfl rfl) ?_
      refine wk ?_
      cases H
      refine iq_n ?_
      exact weak_of ⟨rfl, rfl, rfl, rfl, rfl, rfl, rfl, rfl, trivial⟩ ⟨rfl, ⟨rfl, rfl⟩, trivial⟩
    · have H := bf h H
      refine wk ?_
      cases H
      refine iq_e (fun hq => ?_)
      cases hq
      refine wk ?_
      exact weak_of ⟨rfl, rfl, trivial⟩ trivial
  refine wk ?_
  cases H
  exact fin_ret (.cons (.tmp rfl) .nil) rfl rfl rfl
def sAcknowledgedPackets (a0 : TSession) : Option Int :=
  some (WR ((WR (a0.Window.Next - 1)) - ((a0.Window.Unacked.length : Nat) : Int)))
theorem sAcknowledgedPackets_c {a0 : TSession} {r : Int} (H : sAcknowledgedPackets a0 = some r) : Fn Tryz.prog 102 [.agg (eTSession a0)] [.c (.d (.i .i64 r))] := by
  refine fn_in Tryz.func102 rfl (by kernel_rfl) Tryz.ntmps102 rfl rfl rfl ?_
  refine wk ?_
  cases H
  exact fin_ret (.cons (.tmp rfl) .nil) rfl rfl rfl
def sChargedExactlyOnce (a0 : TNetwork) (a1 : Int) : Option Bool :=
  Option.bind (sl34Account a0 a1) fun r1 => Option.bind (bif r1 then (Option.bind (sChargedBytes a0 a1) fun r3 => Option.bind (ix a0.Sessions a1) fun x4 => Option.bind (ix a0.Sessions a1) fun x5 => Option.bind (sAcknowledgedPackets x5) fun r6 => Option.bind (sBytesOfFirst x4 r6) fun r7 => some (eqB r3 r7)) else (some false)) fun (v2 : Bool) => some v2
theorem sChargedExactlyOnce_c {a0 : TNetwork} {a1 : Int} {r : Bool} (H : sChargedExactlyOnce a0 a1 = some r) : Fn Tryz.prog 58 [.agg (eTNetwork a0), aI a1] [.c (.d (.b r))] := by
  refine fn_in Tryz.func58 rfl (by kernel_rfl) Tryz.ntmps58 rfl rfl rfl ?_
  refine wkd ?_
  obtain ⟨r1, hr1, H⟩ := ob H
  refine dr_n rfl (ca rfl rfl rfl (sl34Account_c hr1) trivial rfl rfl rfl rfl) ?_
  refine wkd ?_
  obtain ⟨v2, Hj, H⟩ := ob H
  refine dr_join ⟨[(4, tB v2)], [], 0⟩ ?_ ?_
  · have H := Hj
    refine wkd ?_
    refine dg2 rfl rfl rfl (fun h => ?_) (fun h => ?_)
    · have H := bt h H
      refine wkd ?_
      obtain ⟨r3, hr3, H⟩ := ob H
      refine dr_ng rfl rfl rfl rfl (ca rfl rfl rfl (sChargedBytes_c hr3) trivial rfl rfl rfl rfl) ?_
      refine wkd ?_
      obtain ⟨x4, hx4, H⟩ := ob H
      refine dr_ng rfl rfl rfl rfl (xdT (enc := eTSession) hx4 (fun _ => rfl) rfl rfl rfl) ?_
      refine wkd ?_
      obtain ⟨x5, hx5, H⟩ := ob H
      refine dr_ng rfl rfl rfl rfl (xdT (enc := eTSession) hx5 (fun _ => rfl) rfl rfl rfl) ?_
      refine wkd ?_
      obtain ⟨r6, hr6, H⟩ := ob H
      refine dr_ng rfl rfl rfl rfl (ca rfl rfl rfl (sAcknowledgedPackets_c hr6) trivial rfl rfl rfl rfl) ?_
      refine wkd ?_
      obtain ⟨r7, hr7, H⟩ := ob H
      refine dr_ng rfl rfl rfl rfl (ca rfl rfl rfl (sBytesOfFirst_c hr7) trivial rfl rfl rfl rfl) ?_
      refine wkd ?_
      cases H
      exact weak_of ⟨rfl, rfl, trivial⟩ trivial
    · have H := bf h H
      refine wkd ?_
      cases H
      exact weak_of ⟨rfl, rfl, trivial⟩ trivial
  refine wkd ?_
  cases H
  exact fin_ret (.cons (.tmp rfl) .nil) rfl rfl rfl
def sAcknowledgedWereDelivered (a0 : TNetwork) (a1 : Int) : Option Bool :=
  Option.bind (sl34Has a0 a1) fun r1 => Option.bind (bif r1 then (Option.bind (ix a0.Sessions a1) fun x3 => Option.bind (sAcknowledgedPackets x3) fun r4 => Option.bind (ix a0.Devices a1) fun x5 => some (leB r4 ((x5.Receiver.Delivered.length : Nat) : Int))) else (some false)) fun (v2 : Bool) => some v2
theorem sAcknowledgedWereDelivered_c {a0 : TNetwork} {a1 : Int} {r : Bool} (H : sAcknowledgedWereDelivered a0 a1 = some r) : Fn Tryz.prog 59 [.agg (eTNetwork a0), aI a1] [.c (.d (.b r))] := by
  refine fn_in Tryz.func59 rfl (by kernel_rfl) Tryz.ntmps59 rfl rfl rfl ?_
  refine wkd ?_
  obtain ⟨r1, hr1, H⟩ := ob H
  refine dr_n rfl (ca rfl rfl rfl (sl34Has_c hr1) trivial rfl rfl rfl rfl) ?_
  refine wkd ?_
  obtain ⟨v2, Hj, H⟩ := ob H
  refine dr_join ⟨[(4, tB v2)], [], 0⟩ ?_ ?_
  · have H := Hj
    refine wkd ?_
    refine dg2 rfl rfl rfl (fun h => ?_) (fun h => ?_)
    · have H := bt h H
      refine wkd ?_
      obtain ⟨x3, hx3, H⟩ := ob H
      refine dr_ng rfl rfl rfl rfl (xdT (enc := eTSession) hx3 (fun _ => rfl) rfl rfl rfl) ?_
      refine wkd ?_
      obtain ⟨r4, hr4, H⟩ := ob H
      refine dr_ng rfl rfl rfl rfl (ca rfl rfl rfl (sAcknowledgedPackets_c hr4) trivial rfl rfl rfl rfl) ?_
      refine wkd ?_
      obtain ⟨x5, hx5, H⟩ := ob H
      refine dr_ng rfl rfl rfl rfl (xdT (enc := eTDevice) hx5 (fun _ => rfl) rfl rfl rfl) ?_
      refine wkd ?_
      cases H
      exact weak_of ⟨rfl, rfl, trivial⟩ trivial
    · have H := bf h H
      refine wkd ?_
      cases H
      exact weak_of ⟨rfl, rfl, trivial⟩ trivial
  refine wkd ?_
  cases H
  exact fin_ret (.cons (.tmp rfl) .nil) rfl rfl rfl
def sl10Has_L1 (a0 : List Int) (a1 : Int) : Int → Option (Step (Int) (Bool))
  | v1 => bif ltB v1 ((a0.length : Nat) : Int) then (Option.bind (ix a0 v1) fun x2 => bif eqB x2 a1 then (dn (some true)) else (some (.next (WR (v1 + 1))))) else (dn (some false))
def sl10Has (a0 : List Int) (a1 : Int) : Option Bool :=
  iter (sl10Has_L1 a0 a1) FU 0
theorem sl10Has_c {a0 : List Int} {a1 : Int} {r : Bool} (H : sl10Has a0 a1 = some r) : Fn Tryz.prog 165 [aL (a0.map eI), aI a1] [.c (.d (.b r))] := by
  refine fn_in Tryz.func165 rfl (by kernel_rfl) Tryz.ntmps165 rfl rfl rfl ?_
  refine wk ?_
  refine awc_iter (fun (q : Int) => ⟨[(0, .v (.c (.d false (.l (a0.map eI))))), (1, tI a1), (5, tI q)], [], 0⟩) H (weak_of ⟨rfl, rfl, rfl, rfl, rfl, rfl, trivial⟩ trivial) ?_
  rintro v1 o H
  try dsimp only
  refine wk ?_
  refine awc_cond rfl (fun h => ?_) (fun h => ?_)
  · have H := bt h H
    refine wk ?_
    obtain ⟨x2, hx2, H⟩ := ob H
    refine awr_n rfl (xdT (enc := eI) hx2 (fun _ => rfl) rfl rfl rfl) ?_
    refine wk ?_
    refine awc_cond rfl (fun h => ?_) (fun h => ?_)
    · have H := bt h H
      refine wk ?_
      obtain ⟨r0, Hd, rfl⟩ := dnE H
      refine iq_r (fun hq => ?_)
      have H := Hd.trans (congrArg some hq)
      refine wk ?_
      cases H
      exact fin_ret (.cons (.tmp rfl) .nil) rfl rfl rfl
    · have H := bf h H
      refine wk ?_
      cases H
      refine iq_n ?_
      exact weak_of ⟨rfl, rfl, rfl, rfl, rfl, rfl, trivial⟩ trivial
  · have H := bf h H
    refine wk ?_
    obtain ⟨r0, Hd, rfl⟩ := dnE H
    refine iq_e (fun hq => ?_)
    have H := Hd.trans (congrArg some hq)
    refine wk ?_
    cases H
    exact fin_ret (.cons (.tmp rfl) .nil) rfl rfl rfl
def sIsValidMap_L2 (a0 : TCellMap) (v1 : Int) (x2 : TCell) : Int → Option (Step (Int) (Step (Int) (Bool)))
  | v4 => bif ltB v4 ((x2.Neighbors.length : Nat) : Int) then (Option.bind (ix x2.Neighbors v4) fun x5 => Option.bind (sl1In x5 0 (WR (((a0.Cells.length : Nat) : Int) - 1))) fun r6 => Option.bind (bif !r6 then (some true) else (bif eqB x5 v1 then (some true) else (bif ltB 0 v4 then (Option.bind (ix x2.Neighbors (WR (v4 - 1))) fun x8 => bif leB x5 x8 then (some true) else (Option.bind (ix a0.Cells x5) fun x9 => Option.bind (sl10Has x9.Neighbors v1) fun r10 => some (!r10))) else (Option.bind (ix a0.Cells x5) fun x11 => Option.bind (sl10Has x11.Neighbors v1) fun r12 => some (!r12))))) fun (v7 : Bool) => bif v7 then (dn (dn (some false))) else (some (.next (WR (v4 + 1))))) else (dn (some (.next (WR (v1 + 1)))))
def sIsValidMap_L1 (a0 : TCellMap) : Int → Option (Step (Int) (Bool))
  | v1 => bif ltB v1 ((a0.Cells.length : Nat) : Int) then (Option.bind (ix a0.Cells v1) fun x2 => Option.bind (sl1In x2.Area 0 2) fun r3 => bif !r3 then (dn (some false)) else (iter (sIsValidMap_L2 a0 v1 x2) FU 0)) else (dn (Option.bind (sl1In ((a0.Cells.length : Nat) : Int) 1 6) fun r13 => some r13))
def sIsValidMap (a0 : TCellMap) : Option Bool :=
  iter (sIsValidMap_L1 a0) FU 0
theorem sIsValidMap_c {a0 : TCellMap} {r : Bool} (H : sIsValidMap a0 = some r) : Fn Tryz.prog 103 [.agg (eTCellMap a0)] [.c (.d (.b r))] := by
  refine fn_in Tryz.func103 rfl (by kernel_rfl) Tryz.ntmps103 rfl rfl rfl ?_
  refine wk ?_
  refine awc_iter (fun (q : Int) => ⟨[(1, .v (.c (.p 0 0))), (3, tI q)], [(0, .var 40 [.d false (.l (a0.Cells.map eTCell))])], 1⟩) H (weak_of ⟨rfl, rfl, rfl, rfl, trivial⟩ ⟨rfl, ⟨rfl, rfl⟩, trivial⟩) ?_
  rintro v1 o H
  try dsimp only
  refine wk ?_
  refine awc_cond rfl (fun h => ?_) (fun h => ?_)
  · have H := bt h H
    refine wk ?_
    obtain ⟨x2, hx2, H⟩ := ob H
    refine awr_n rfl (xdT (enc := eTCell) hx2 (fun _ => rfl) rfl rfl rfl) ?_
    refine wk ?_
    obtain ⟨r3, hr3, H⟩ := ob H
    refine awr_n rfl (ca rfl rfl rfl (sl1In_c hr3) trivial rfl rfl rfl rfl) ?_
    refine wk ?_
    refine awc_cond rfl (fun h => ?_) (fun h => ?_)
    · have H := bt h H
      refine wk ?_
      obtain ⟨r0, Hd, rfl⟩ := dnE H
      refine iq_r (fun hq => ?_)
      have H := Hd.trans (congrArg some hq)
      refine wk ?_
      cases H
      exact fin_ret (.cons (.tmp rfl) .nil) rfl rfl rfl
    · have H := bf h H
      refine wk ?_
      refine awc_iter (fun (q : Int) => ⟨[(1, .v (.c (.p 0 0))), (3, tI v1), (4, .v (.c (.p 1 0))), (5, tI q)], [(0, .var 40 [.d false (.l (a0.Cells.map eTCell))]), (1, .var 213 [.d false (.i .i64 x2.Area), .d false (.l (x2.Neighbors.map eI))])], 2⟩) H (weak_of ⟨rfl, rfl, rfl, rfl, rfl, rfl, rfl, rfl, trivial⟩ ⟨rfl, ⟨rfl, rfl⟩, rfl, ⟨rfl, rfl⟩, trivial⟩) ?_
      rintro v4 o H
      try dsimp only
      refine wk ?_
      refine awc_cond rfl (fun h => ?_) (fun h => ?_)
      · have H := bt h H
        refine wk ?_
        obtain ⟨x5, hx5, H⟩ := ob H
        refine awr_n rfl (xdT (enc := eI) hx5 (fun _ => rfl) rfl rfl rfl) ?_
        refine wk ?_
        obtain ⟨r6, hr6, H⟩ := ob H
        refine awr_n rfl (ca rfl rfl rfl (sl1In_c hr6) trivial rfl rfl rfl rfl) ?_
        refine wk ?_
        obtain ⟨v7, Hj, H⟩ := ob H
        refine awr_join ⟨[(1, .v (.c (.p 0 0))), (3, tI v1), (4, .v (.c (.p 1 0))), (5, tI v4), (71, tB v7)], [(0, .var 40 [.d false (.l (a0.Cells.map eTCell))]), (1, .var 213 [.d false (.i .i64 x2.Area), .d false (.l (x2.Neighbors.map eI))])], 2⟩ ?_ ?_
        · have H := Hj
          refine wk ?_
          refine g2 rfl rfl rfl (fun h => ?_) (fun h => ?_)
          · have H := bt h H
            refine wk ?_
            cases H
            exact weak_of ⟨rfl, rfl, rfl, rfl, rfl, rfl, rfl, rfl, rfl, rfl, trivial⟩ ⟨rfl, ⟨rfl, rfl⟩, rfl, ⟨rfl, rfl⟩, trivial⟩
          · have H := bf h H
            refine wk ?_
            refine g2 rfl rfl rfl (fun h => ?_) (fun h => ?_)
            · have H := bt h H
              refine wk ?_
              cases H
              exact weak_of ⟨rfl, rfl, rfl, rfl, rfl, rfl, rfl, rfl, rfl, rfl, trivial⟩ ⟨rfl, ⟨rfl, rfl⟩, rfl, ⟨rfl, rfl⟩, trivial⟩
            · have H := bf h H
              refine wk ?_
              refine g2 rfl rfl rfl (fun h => ?_) (fun h => ?_)
              · have H := bt h H
                refine wk ?_
                obtain ⟨x8, hx8, H⟩ := ob H
                refine awr_ng rfl rfl rfl rfl (xdT (enc := eI) hx8 (fun _ => rfl) rfl rfl rfl) ?_
                refine wk ?_
                refine g2 rfl rfl rfl (fun h => ?_) (fun h => ?_)
                · have H := bt h H
                  refine wk ?_
                  cases H
                  exact weak_of ⟨rfl, rfl, rfl, rfl, rfl, rfl, rfl, rfl, rfl, rfl, trivial⟩ ⟨rfl, ⟨rfl, rfl⟩, rfl, ⟨rfl, rfl⟩, trivial⟩
                · have H := bf h H
                  refine wk ?_
                  obtain ⟨x9, hx9, H⟩ := ob H
                  refine awr_ng rfl rfl rfl rfl (xdT (enc := eTCell) hx9 (fun _ => rfl) rfl rfl rfl) ?_
                  refine wk ?_
                  obtain ⟨r10, hr10, H⟩ := ob H
                  refine awr_ng rfl rfl rfl rfl (ca rfl rfl rfl (sl10Has_c hr10) trivial rfl rfl rfl rfl) ?_
                  refine wk ?_
                  cases H
                  exact weak_of ⟨rfl, rfl, rfl, rfl, rfl, rfl, rfl, rfl, rfl, rfl, trivial⟩ ⟨rfl, ⟨rfl, rfl⟩, rfl, ⟨rfl, rfl⟩, trivial⟩
              · have H := bf h H
                refine wk ?_
                obtain ⟨x11, hx11, H⟩ := ob H
                refine awr_ng rfl rfl rfl rfl (xdT (enc := eTCell) hx11 (fun _ => rfl) rfl rfl rfl) ?_
                refine wk ?_
                obtain ⟨r12, hr12, H⟩ := ob H
                refine awr_ng rfl rfl rfl rfl (ca rfl rfl rfl (sl10Has_c hr12) trivial rfl rfl rfl rfl) ?_
                refine wk ?_
                cases H
                exact weak_of ⟨rfl, rfl, rfl, rfl, rfl, rfl, rfl, rfl, rfl, rfl, trivial⟩ ⟨rfl, ⟨rfl, rfl⟩, rfl, ⟨rfl, rfl⟩, trivial⟩
        refine wk ?_
        refine awc_cond rfl (fun h => ?_) (fun h => ?_)
        · have H := bt h H
          refine wk ?_
          obtain ⟨r0, Hd, rfl⟩ := dnE H
          refine iq_r (fun hq => ?_)
          have H := Hd.trans (congrArg some hq)
          refine wk ?_
          obtain ⟨r0, Hd, rfl⟩ := dnE H
          refine iq_r (fun hq => ?_)
          have H := Hd.trans (congrArg some hq)
          refine wk ?_
          cases H
          exact fin_ret (.cons (.tmp rfl) .nil) rfl rfl rfl
        · have H := bf h H
          refine wk ?_
          cases H
          refine iq_n ?_
          exact weak_of ⟨rfl, rfl, rfl, rfl, rfl, rfl, rfl, rfl, trivial⟩ ⟨rfl, ⟨rfl, rfl⟩, rfl, ⟨rfl, rfl⟩, trivial⟩
      · have H := bf h H
        refine wk ?_
        obtain ⟨r0, Hd, rfl⟩ := dnE H
        refine iq_e (fun hq => ?_)
        have H := Hd.trans (congrArg some hq)
        refine wk ?_
        cases H
        refine iq_n ?_
        exact weak_of ⟨rfl, rfl, rfl, rfl, trivial⟩ ⟨rfl, ⟨rfl, rfl⟩, trivial⟩
  · have H := bf h H
    refine wk ?_
    obtain ⟨r0, Hd, rfl⟩ := dnE H
    refine iq_e (fun hq => ?_)
    have H := Hd.trans (congrArg some hq)
    refine wk ?_
    obtain ⟨r13, hr13, H⟩ := ob H
    refine awr_n rfl (ca rfl rfl rfl (sl1In_c hr13) trivial rfl rfl rfl rfl) ?_
    refine wk ?_
    cases H
    exact fin_ret (.cons (.tmp rfl) .nil) rfl rfl rfl
def sIsValidPool (a0 : TServerPool) : Option Bool :=
  Option.bind (sl1In a0.Size 1 6) fun r1 => Option.bind (bif r1 then (bif leB 0 a0.Size then (Option.bind (sl1In a0.UpMask 0 (WR ((bShl .i64 1 a0.Size) - 1))) fun r3 => some r3) else none) else (some false)) fun (v2 : Bool) => some v2
theorem sIsValidPool_c {a0 : TServerPool} {r : Bool} (H : sIsValidPool a0 = some r) : Fn Tryz.prog 104 [.agg (eTServerPool a0)] [.c (.d (.b r))] := by
  refine fn_in Tryz.func104 rfl (by kernel_rfl) Tryz.ntmps104 rfl rfl rfl ?_
  refine wkd ?_
  obtain ⟨r1, hr1, H⟩ := ob H
  refine dr_n rfl (ca rfl rfl rfl (sl1In_c hr1) trivial rfl rfl rfl rfl) ?_
  refine wkd ?_
  obtain ⟨v2, Hj, H⟩ := ob H
  refine dr_join ⟨[(2, tB v2)], [], 0⟩ ?_ ?_
  · have H := Hj
    refine wkd ?_
    refine dg2 rfl rfl rfl (fun h => ?_) (fun h => ?_)
    · have H := bt h H
      refine wkd ?_
      obtain ⟨h, H⟩ := rq H
      refine dr_ng rfl rfl rfl rfl (ishT h rfl rfl rfl rfl) ?_
      refine wkd ?_
      obtain ⟨r3, hr3, H⟩ := ob H
      refine dr_ng rfl rfl rfl rfl (ca rfl rfl rfl (sl1In_c hr3) trivial rfl rfl rfl rfl) ?_
      refine wkd ?_
      cases H
      exact weak_of ⟨rfl, rfl, trivial⟩ trivial
    · have H := bf h H
      refine wkd ?_
      cases H
      exact weak_of ⟨rfl, rfl, trivial⟩ trivial
  refine wkd ?_
  cases H
  exact fin_ret (.cons (.tmp rfl) .nil) rfl rfl rfl
def sIsValidKey (a0 : Int) : Option Bool :=
  Option.bind (sl1In a0 1 2147483646) fun r1 => some r1
theorem sIsValidKey_c {a0 : Int} {r : Bool} (H : sIsValidKey a0 = some r) : Fn Tryz.prog 203 [aI a0] [.c (.d (.b r))] := by
  refine fn_in Tryz.func203 rfl (by kernel_rfl) Tryz.ntmps203 rfl rfl rfl ?_
  refine wk ?_
  obtain ⟨r1, hr1, H⟩ := ob H
  refine awr_n rfl (ca rfl rfl rfl (sl1In_c hr1) trivial rfl rfl rfl rfl) ?_
  refine wk ?_
  cases H
  exact fin_ret (.cons (.tmp rfl) .nil) rfl rfl rfl
def sIsValidSubscriberID (a0 : TSubscriberID) : Option Bool :=
  Option.bind (sl1In a0.Network 0 3) fun r1 => Option.bind (bif r1 then (Option.bind (sl1In a0.Number 0 99) fun r3 => some r3) else (some false)) fun (v2 : Bool) => some v2
theorem sIsValidSubscriberID_c {a0 : TSubscriberID} {r : Bool} (H : sIsValidSubscriberID a0 = some r) : Fn Tryz.prog 238 [.agg (eTSubscriberID a0)] [.c (.d (.b r))] := by
  refine fn_in Tryz.func238 rfl (by kernel_rfl) Tryz.ntmps238 rfl rfl rfl ?_
  refine wk ?_
  obtain ⟨r1, hr1, H⟩ := ob H
  refine awr_n rfl (ca rfl rfl rfl (sl1In_c hr1) trivial rfl rfl rfl rfl) ?_
  refine wk ?_
  obtain ⟨v2, Hj, H⟩ := ob H
  refine awr_join ⟨[(2, tB v2)], [], 0⟩ ?_ ?_
  · have H := Hj
    refine wk ?_
    refine g2 rfl rfl rfl (fun h => ?_) (fun h => ?_)
    · have H := bt h H
      refine wk ?_
      obtain ⟨r3, hr3, H⟩ := ob H
      refine awr_ng rfl rfl rfl rfl (ca rfl rfl rfl (sl1In_c hr3) trivial rfl rfl rfl rfl) ?_
      refine wk ?_
      cases H
      exact weak_of ⟨rfl, rfl, trivial⟩ trivial
    · have H := bf h H
      refine wk ?_
      cases H
      exact weak_of ⟨rfl, rfl, trivial⟩ trivial
  refine wk ?_
  cases H
  exact fin_ret (.cons (.tmp rfl) .nil) rfl rfl rfl
def sIsValidUSIM (a0 : TUSIM) : Option Bool :=
  Option.bind (sIsValidSubscriberID a0.ID) fun r1 => Option.bind (bif r1 then (Option.bind (sIsValidKey a0.Key) fun r3 => bif r3 then (Option.bind (sl1In a0.LastSeq 0 999999) fun r4 => some r4) else (some false)) else (some false)) fun (v2 : Bool) => some v2
theorem sIsValidUSIM_c {a0 : TUSIM} {r : Bool} (H : sIsValidUSIM a0 = some r) : Fn Tryz.prog 204 [.agg (eTUSIM a0)] [.c (.d (.b r))] := by
  refine fn_in Tryz.func204 rfl (by kernel_rfl) Tryz.ntmps204 rfl rfl rfl ?_
  refine wk ?_
  obtain ⟨r1, hr1, H⟩ := ob H
  refine awr_n rfl (ca rfl rfl rfl (sIsValidSubscriberID_c hr1) trivial rfl rfl rfl rfl) ?_
  refine wk ?_
  obtain ⟨v2, Hj, H⟩ := ob H
  refine awr_join ⟨[(2, tB v2)], [], 0⟩ ?_ ?_
  · have H := Hj
    refine wk ?_
    refine g2 rfl rfl rfl (fun h => ?_) (fun h => ?_)
    · have H := bt h H
      refine wk ?_
      obtain ⟨r3, hr3, H⟩ := ob H
      refine awr_ng rfl rfl rfl rfl (ca rfl rfl rfl (sIsValidKey_c hr3) trivial rfl rfl rfl rfl) ?_
      refine wk ?_
      refine g2 rfl rfl rfl (fun h => ?_) (fun h => ?_)
      · have H := bt h H
        refine wk ?_
        obtain ⟨r4, hr4, H⟩ := ob H
        refine awr_ng rfl rfl rfl rfl (ca rfl rfl rfl (sl1In_c hr4) trivial rfl rfl rfl rfl) ?_
        refine wk ?_
        cases H
        exact weak_of ⟨rfl, rfl, trivial⟩ trivial
      · have H := bf h H
        refine wk ?_
        cases H
        exact weak_of ⟨rfl, rfl, trivial⟩ trivial
    · have H := bf h H
      refine wk ?_
      cases H
      exact weak_of ⟨rfl, rfl, trivial⟩ trivial
  refine wk ?_
  cases H
  exact fin_ret (.cons (.tmp rfl) .nil) rfl rfl rfl
def sIsValidReceiver_L2 (a0 : TReceiveWindow) : Int → Option (Step (Int) (Bool))
  | v9 => bif ltB v9 ((a0.Delivered.length : Nat) : Int) then (Option.bind (ix a0.Delivered v9) fun x10 => bif ltB 60 ((x10.Data.length : Nat) : Int) then (dn (some false)) else (some (.next (WR (v9 + 1))))) else (dn (Option.bind (bif eqB a0.Next (WR (((a0.Delivered.length : Nat) : Int) + 1)) then (bif leB ((a0.Delivered.length : Nat) : Int) 24 then (some (leB ((a0.Pending.length : Nat) : Int) 8)) else (some false)) else (some false)) fun (v11 : Bool) => some v11))
def sIsValidReceiver_L1 (a0 : TReceiveWindow) : Int → Option (Step (Int) (Bool))
  | v1 => bif ltB v1 ((a0.Pending.length : Nat) : Int) then (Option.bind (ix a0.Pending v1) fun x2 => Option.bind (sl1In x2.Seq (WR (a0.Next + 1)) (WR ((WR (a0.Next + 8)) - 1))) fun r3 => Option.bind (bif !r3 then (some true) else (bif ltB 0 v1 then (Option.bind (ix a0.Pending (WR (v1 - 1))) fun x5 => Option.bind (ix a0.Pending v1) fun x6 => bif leB x6.Seq x5.Seq then (some true) else (Option.bind (ix a0.Pending v1) fun x7 => some (ltB 60 ((x7.Data.length : Nat) : Int)))) else (Option.bind (ix a0.Pending v1) fun x8 => some (ltB 60 ((x8.Data.length : Nat) : Int))))) fun (v4 : Bool) => bif v4 then (dn (some false)) else (some (.next (WR (v1 + 1))))) else (dn (iter (sIsValidReceiver_L2 a0) FU 0))
def sIsValidReceiver (a0 : TReceiveWindow) : Option Bool :=
  iter (sIsValidReceiver_L1 a0) FU 0
theorem sIsValidReceiver_c {a0 : TReceiveWindow} {r : Bool} (H : sIsValidReceiver a0 = some r) : Fn Tryz.prog 205 [.agg (eTReceiveWindow a0)] [.c (.d (.b r))] := by
  refine fn_in Tryz.func205 rfl (by kernel_rfl) Tryz.ntmps205 rfl rfl rfl ?_
  refine wkd ?_
  refine awc_iter (fun (q : Int) => ⟨[(1, .v (.c (.p 0 0))), (3, tI q)], [(0, .var 172 [.d false (.i .i64 a0.Next), .d false (.l (a0.Pending.map eTNumberedPacket)), .d false (.l (a0.Delivered.map eTPayload))])], 1⟩) H (weak_of ⟨rfl, rfl, rfl, rfl, trivial⟩ ⟨rfl, ⟨rfl, rfl⟩, trivial⟩) ?_
  rintro v1 o H
  try dsimp only
  refine wkd ?_
  refine awc_cond rfl (fun h => ?_) (fun h => ?_)
  · have H := bt h H
    refine wkd ?_
    obtain ⟨x2, hx2, H⟩ := ob H
    refine dr_n rfl (xdT (enc := eTNumberedPacket) hx2 (fun _ => rfl) rfl rfl rfl) ?_
    refine wkd ?_
    obtain ⟨r3, hr3, H⟩ := ob H
    refine dr_n rfl (ca rfl rfl rfl (sl1In_c hr3) trivial rfl rfl rfl rfl) ?_
    refine wkd ?_
    obtain ⟨v4, Hj, H⟩ := ob H
    refine dr_join ⟨[(1, .v (.c (.p 0 0))), (3, tI v1), (56, tB v4)], [(0, .var 172 [.d false (.i .i64 a0.Next), .d false (.l (a0.Pending.map eTNumberedPacket)), .d false (.l (a0.Delivered.map eTPayload))])], 1⟩ ?_ ?_
    · have H := Hj
      refine wkd ?_
      refine dg2 rfl rfl rfl (fun h => ?_) (fun h => ?_)
      · have H := bt h H
        refine wkd ?_
        cases H
        exact weak_of ⟨rfl, rfl, rfl, rfl, rfl, rfl, trivial⟩ ⟨rfl, ⟨rfl, rfl⟩, trivial⟩
      · have H := bf h H
        refine wkd ?_
        refine dg2 rfl rfl rfl (fun h => ?_) (fun h => ?_)
        · have H := bt h H
          refine wkd ?_
          obtain ⟨x5, hx5, H⟩ := ob H
          refine dr_ng rfl rfl rfl rfl (xdT (enc := eTNumberedPacket) hx5 (fun _ => rfl) rfl rfl rfl) ?_
          refine wkd ?_
          obtain ⟨x6, hx6, H⟩ := ob H
          refine dr_ng rfl rfl rfl rfl (xdT (enc := eTNumberedPacket) hx6 (fun _ => rfl) rfl rfl rfl) ?_
          refine wkd ?_
          refine dg2 rfl rfl rfl (fun h => ?_) (fun h => ?_)
          · have H := bt h H
            refine wkd ?_
            cases H
            exact weak_of ⟨rfl, rfl, rfl, rfl, rfl, rfl, trivial⟩ ⟨rfl, ⟨rfl, rfl⟩, trivial⟩
          · have H := bf h H
            refine wkd ?_
            obtain ⟨x7, hx7, H⟩ := ob H
            refine dr_ng rfl rfl rfl rfl (xdT (enc := eTNumberedPacket) hx7 (fun _ => rfl) rfl rfl rfl) ?_
            refine wkd ?_
            cases H
            exact weak_of ⟨rfl, rfl, rfl, rfl, rfl, rfl, trivial⟩ ⟨rfl, ⟨rfl, rfl⟩, trivial⟩
        · have H := bf h H
          refine wkd ?_
          obtain ⟨x8, hx8, H⟩ := ob H
          refine dr_ng rfl rfl rfl rfl (xdT (enc := eTNumberedPacket) hx8 (fun _ => rfl) rfl rfl rfl) ?_
          refine wkd ?_
          cases H
          exact weak_of ⟨rfl, rfl, rfl, rfl, rfl, rfl, trivial⟩ ⟨rfl, ⟨rfl, rfl⟩, trivial⟩
    refine wkd ?_
    refine awc_cond rfl (fun h => ?_) (fun h => ?_)
    · have H := bt h H
      refine wkd ?_
      obtain ⟨r0, Hd, rfl⟩ := dnE H
      refine iq_r (fun hq => ?_)
      have H := Hd.trans (congrArg some hq)
      refine wkd ?_
      cases H
      exact fin_ret (.cons (.tmp rfl) .nil) rfl rfl rfl
    · have H := bf h H
      refine wkd ?_
      cases H
      refine iq_n ?_
      exact weak_of ⟨rfl, rfl, rfl, rfl, trivial⟩ ⟨rfl, ⟨rfl, rfl⟩, trivial⟩
  · have H := bf h H
    refine wkd ?_
    obtain ⟨r0, Hd, rfl⟩ := dnE H
    refine iq_e (fun hq => ?_)
    have H := Hd.trans (congrArg some hq)
    refine wkd ?_
    refine awc_iter (fun (q : Int) => ⟨[(1, .v (.c (.p 0 0))), (4, tI q)], [(0, .var 172 [.d false (.i .i64 a0.Next), .d false (.l (a0.Pending.map eTNumberedPacket)), .d false (.l (a0.Delivered.map eTPayload))])], 1⟩) H (weak_of ⟨rfl, rfl, rfl, rfl, trivial⟩ ⟨rfl, ⟨rfl, rfl⟩, trivial⟩) ?_
    rintro v9 o H
    try dsimp only
    refine wkd ?_
    refine awc_cond rfl (fun h => ?_) (fun h => ?_)
    · have H := bt h H
      refine wkd ?_
      obtain ⟨x10, hx10, H⟩ := ob H
      refine awr_n rfl (xdT (enc := eTPayload) hx10 (fun _ => rfl) rfl rfl rfl) ?_
      refine wkd ?_
      refine awc_cond rfl (fun h => ?_) (fun h => ?_)
      · have H := bt h H
        refine wkd ?_
        obtain ⟨r0, Hd, rfl⟩ := dnE H
        refine iq_r (fun hq => ?_)
        have H := Hd.trans (congrArg some hq)
        refine wkd ?_
        cases H
        exact fin_ret (.cons (.tmp rfl) .nil) rfl rfl rfl
      · have H := bf h H
        refine wkd ?_
        cases H
        refine iq_n ?_
        exact weak_of ⟨rfl, rfl, rfl, rfl, trivial⟩ ⟨rfl, ⟨rfl, rfl⟩, trivial⟩
    · have H := bf h H
      refine wkd ?_
      obtain ⟨r0, Hd, rfl⟩ := dnE H
      refine iq_e (fun hq => ?_)
      have H := Hd.trans (congrArg some hq)
      refine wkd ?_
      obtain ⟨v11, Hj, H⟩ := ob H
      refine awr_join ⟨[(2, tB v11)], [], 0⟩ ?_ ?_
      · have H := Hj
        refine wkd ?_
        refine g2 rfl rfl rfl (fun h => ?_) (fun h => ?_)
        · have H := bt h H
          refine wkd ?_
          refine g2 rfl rfl rfl (fun h => ?_) (fun h => ?_)
          · have H := bt h H
            refine wkd ?_
            cases H
            exact weak_of ⟨rfl, rfl, trivial⟩ trivial
          · have H := bf h H
            refine wkd ?_
            cases H
            exact weak_of ⟨rfl, rfl, trivial⟩ trivial
        · have H := bf h H
          refine wkd ?_
          cases H
          exact weak_of ⟨rfl, rfl, trivial⟩ trivial
      refine wkd ?_
      cases H
      exact fin_ret (.cons (.tmp rfl) .nil) rfl rfl rfl
def sIsValidDevice (a0 : TDevice) : Option Bool :=
  Option.bind (sl1In a0.State 2 3) fun r1 => Option.bind (bif r1 then (Option.bind (sIsValidKey a0.RootKey) fun r3 => some (!r3)) else (some false)) fun (v2 : Bool) => bif v2 then (some false) else (Option.bind (sIsValidUSIM a0.Card) fun r4 => Option.bind (bif r4 then (Option.bind (sl1In a0.State 0 3) fun r6 => bif r6 then (Option.bind (sl1In a0.Cell 0 5) fun r7 => bif r7 then (Option.bind (sl1In a0.Generation 0 999999) fun r8 => bif r8 then (Option.bind (sl1In a0.Epoch 0 999999) fun r9 => bif r9 then (Option.bind (sl1In a0.RootKey 0 2147483646) fun r10 => bif r10 then (Option.bind (sl1In a0.Wait 0 3) fun r11 => bif r11 then (Option.bind (sIsValidReceiver a0.Receiver) fun r12 => some r12) else (some false)) else (some false)) else (some false)) else (some false)) else (some false)) else (some false)) else (some false)) fun (v5 : Bool) => some v5)
theorem sIsValidDevice_c {a0 : TDevice} {r : Bool} (H : sIsValidDevice a0 = some r) : Fn Tryz.prog 166 [.agg (eTDevice a0)] [.c (.d (.b r))] := by
  refine fn_in Tryz.func166 rfl (by kernel_rfl) Tryz.ntmps166 rfl rfl rfl ?_
  refine wk ?_
  obtain ⟨r1, hr1, H⟩ := ob H
  refine awr_n rfl (ca rfl rfl rfl (sl1In_c hr1) trivial rfl rfl rfl rfl) ?_
  refine wk ?_
  obtain ⟨v2, Hj, H⟩ := ob H
  refine awr_join ⟨[(1, .v (.c (.p 0 0))), (11, tB v2)], [(0, .var 174 [.d false (.i .i64 a0.Card.ID.Network), .d false (.i .i64 a0.Card.ID.Number), .d false (.i .i64 a0.Card.Key), .d false (.i .i64 a0.Card.LastSeq), .d false (.i .i64 a0.State), .d false (.i .i64 a0.Cell), .d false (.i .i64 a0.Generation), .d false (.i .i64 a0.RootKey), .d false (.i .i64 a0.Epoch), .d false (.b a0.PathConfirmed), .d false (.i .i64 a0.Wait), .d false (.i .i64 a0.Receiver.Next), .d false (.l (a0.Receiver.Pending.map eTNumberedPacket)), .d false (.l (a0.Receiver.Delivered.map eTPayload))])], 1⟩ ?_ ?_
  · have H := Hj
    refine wk ?_
    refine g2 rfl rfl rfl (fun h => ?_) (fun h => ?_)
    · have H := bt h H
      refine wk ?_
      obtain ⟨r3, hr3, H⟩ := ob H
      refine awr_ng rfl rfl rfl rfl (ca rfl rfl rfl (sIsValidKey_c hr3) trivial rfl rfl rfl rfl) ?_
      refine wk ?_
      cases H
      exact weak_of ⟨rfl, rfl, rfl, rfl, trivial⟩ ⟨rfl, ⟨rfl, rfl⟩, trivial⟩
    · have H := bf h H
      refine wk ?_
      cases H
      exact weak_of ⟨rfl, rfl, rfl, rfl, trivial⟩ ⟨rfl, ⟨rfl, rfl⟩, trivial⟩
  refine wk ?_
  refine awc_cond rfl (fun h => ?_) (fun h => ?_)
  · have H := bt h H
    refine wk ?_
    cases H
    exact fin_ret (.cons (.tmp rfl) .nil) rfl rfl rfl
  · have H := bf h H
    refine wk ?_
    obtain ⟨r4, hr4, H⟩ := ob H
    refine awr_n rfl (ca rfl rfl rfl (sIsValidUSIM_c hr4) trivial rfl rfl rfl rfl) ?_
    refine wk ?_
    obtain ⟨v5, Hj, H⟩ := ob H
    refine awr_join ⟨[(2, tB v5)], [], 0⟩ ?_ ?_
    · have H := Hj
      refine wk ?_
      refine g2 rfl rfl rfl (fun h => ?_) (fun h => ?_)
      · have H := bt h H
        refine wk ?_
        obtain ⟨r6, hr6, H⟩ := ob H
        refine awr_ng rfl rfl rfl rfl (ca rfl rfl rfl (sl1In_c hr6) trivial rfl rfl rfl rfl) ?_
        refine wk ?_
        refine g2 rfl rfl rfl (fun h => ?_) (fun h => ?_)
        · have H := bt h H
          refine wk ?_
          obtain ⟨r7, hr7, H⟩ := ob H
          refine awr_ng rfl rfl rfl rfl (ca rfl rfl rfl (sl1In_c hr7) trivial rfl rfl rfl rfl) ?_
          refine wk ?_
          refine g2 rfl rfl rfl (fun h => ?_) (fun h => ?_)
          · have H := bt h H
            refine wk ?_
            obtain ⟨r8, hr8, H⟩ := ob H
            refine awr_ng rfl rfl rfl rfl (ca rfl rfl rfl (sl1In_c hr8) trivial rfl rfl rfl rfl) ?_
            refine wk ?_
            refine g2 rfl rfl rfl (fun h => ?_) (fun h => ?_)
            · have H := bt h H
              refine wk ?_
              obtain ⟨r9, hr9, H⟩ := ob H
              refine awr_ng rfl rfl rfl rfl (ca rfl rfl rfl (sl1In_c hr9) trivial rfl rfl rfl rfl) ?_
              refine wk ?_
              refine g2 rfl rfl rfl (fun h => ?_) (fun h => ?_)
              · have H := bt h H
                refine wk ?_
                obtain ⟨r10, hr10, H⟩ := ob H
                refine awr_ng rfl rfl rfl rfl (ca rfl rfl rfl (sl1In_c hr10) trivial rfl rfl rfl rfl) ?_
                refine wk ?_
                refine g2 rfl rfl rfl (fun h => ?_) (fun h => ?_)
                · have H := bt h H
                  refine wk ?_
                  obtain ⟨r11, hr11, H⟩ := ob H
                  refine awr_ng rfl rfl rfl rfl (ca rfl rfl rfl (sl1In_c hr11) trivial rfl rfl rfl rfl) ?_
                  refine wk ?_
                  refine g2 rfl rfl rfl (fun h => ?_) (fun h => ?_)
                  · have H := bt h H
                    refine wk ?_
                    obtain ⟨r12, hr12, H⟩ := ob H
                    refine awr_ng rfl rfl rfl rfl (ca rfl rfl rfl (sIsValidReceiver_c hr12) trivial rfl rfl rfl rfl) ?_
                    refine wk ?_
                    cases H
                    exact weak_of ⟨rfl, rfl, trivial⟩ trivial
                  · have H := bf h H
                    refine wk ?_
                    cases H
                    exact weak_of ⟨rfl, rfl, trivial⟩ trivial
                · have H := bf h H
                  refine wk ?_
                  cases H
                  exact weak_of ⟨rfl, rfl, trivial⟩ trivial
              · have H := bf h H
                refine wk ?_
                cases H
                exact weak_of ⟨rfl, rfl, trivial⟩ trivial
            · have H := bf h H
              refine wk ?_
              cases H
              exact weak_of ⟨rfl, rfl, trivial⟩ trivial
          · have H := bf h H
            refine wk ?_
            cases H
            exact weak_of ⟨rfl, rfl, trivial⟩ trivial
        · have H := bf h H
          refine wk ?_
          cases H
          exact weak_of ⟨rfl, rfl, trivial⟩ trivial
      · have H := bf h H
        refine wk ?_
        cases H
        exact weak_of ⟨rfl, rfl, trivial⟩ trivial
    refine wk ?_
    cases H
    exact fin_ret (.cons (.tmp rfl) .nil) rfl rfl rfl
def sIsValidSubscriberRecord (a0 : TSubscriberRecord) : Option Bool :=
  Option.bind (sIsValidSubscriberID a0.ID) fun r1 => Option.bind (bif r1 then (Option.bind (sIsValidKey a0.Key) fun r3 => bif r3 then (Option.bind (sl1In a0.Seq 0 999999) fun r4 => some r4) else (some false)) else (some false)) fun (v2 : Bool) => some v2
theorem sIsValidSubscriberRecord_c {a0 : TSubscriberRecord} {r : Bool} (H : sIsValidSubscriberRecord a0 = some r) : Fn Tryz.prog 206 [.agg (eTSubscriberRecord a0)] [.c (.d (.b r))] := by
  refine fn_in Tryz.func206 rfl (by kernel_rfl) Tryz.ntmps206 rfl rfl rfl ?_
  refine wk ?_
  obtain ⟨r1, hr1, H⟩ := ob H
  refine awr_n rfl (ca rfl rfl rfl (sIsValidSubscriberID_c hr1) trivial rfl rfl rfl rfl) ?_
  refine wk ?_
  obtain ⟨v2, Hj, H⟩ := ob H
  refine awr_join ⟨[(2, tB v2)], [], 0⟩ ?_ ?_
  · have H := Hj
    refine wk ?_
    refine g2 rfl rfl rfl (fun h => ?_) (fun h => ?_)
    · have H := bt h H
      refine wk ?_
      obtain ⟨r3, hr3, H⟩ := ob H
      refine awr_ng rfl rfl rfl rfl (ca rfl rfl rfl (sIsValidKey_c hr3) trivial rfl rfl rfl rfl) ?_
      refine wk ?_
      refine g2 rfl rfl rfl (fun h => ?_) (fun h => ?_)
      · have H := bt h H
        refine wk ?_
        obtain ⟨r4, hr4, H⟩ := ob H
        refine awr_ng rfl rfl rfl rfl (ca rfl rfl rfl (sl1In_c hr4) trivial rfl rfl rfl rfl) ?_
        refine wk ?_
        cases H
        exact weak_of ⟨rfl, rfl, trivial⟩ trivial
      · have H := bf h H
        refine wk ?_
        cases H
        exact weak_of ⟨rfl, rfl, trivial⟩ trivial
    · have H := bf h H
      refine wk ?_
      cases H
      exact weak_of ⟨rfl, rfl, trivial⟩ trivial
  refine wk ?_
  cases H
  exact fin_ret (.cons (.tmp rfl) .nil) rfl rfl rfl
def sIsValidSubscription_L1 (a0 : TSubscription) : Int → Option (Step (Int) (Bool))
  | v1 => bif ltB v1 ((a0.RoamingNetworks.length : Nat) : Int) then (Option.bind (ix a0.RoamingNetworks v1) fun x2 => Option.bind (sl1In x2 0 3) fun r3 => Option.bind (bif !r3 then (some true) else (bif ltB 0 v1 then (Option.bind (ix a0.RoamingNetworks (WR (v1 - 1))) fun x5 => Option.bind (ix a0.RoamingNetworks v1) fun x6 => some (leB x6 x5)) else (some false))) fun (v4 : Bool) => bif v4 then (dn (some false)) else (some (.next (WR (v1 + 1))))) else (dn (Option.bind (sl1In a0.RateLimit 1 1000) fun r7 => Option.bind (bif r7 then (Option.bind (sl1In a0.BestClass 1 4) fun r9 => bif r9 then (Option.bind (sl1In a0.GrantSize 1 100000) fun r10 => some r10) else (some false)) else (some false)) fun (v8 : Bool) => some v8))
def sIsValidSubscription (a0 : TSubscription) : Option Bool :=
  iter (sIsValidSubscription_L1 a0) FU 0
theorem sIsValidSubscription_c {a0 : TSubscription} {r : Bool} (H : sIsValidSubscription a0 = some r) : Fn Tryz.prog 207 [.agg (eTSubscription a0)] [.c (.d (.b r))] := by
  refine fn_in Tryz.func207 rfl (by kernel_rfl) Tryz.ntmps207 rfl rfl rfl ?_
  refine wkd ?_
  refine awc_iter (fun (q : Int) => ⟨[(1, .v (.c (.p 0 0))), (3, tI q)], [(0, .var 115 [.d false (.i .i64 a0.RateLimit), .d false (.i .i64 a0.BestClass), .d false (.i .i64 a0.GrantSize), .d false (.l (a0.RoamingNetworks.map eI))])], 1⟩) H (weak_of ⟨rfl, rfl, rfl, rfl, trivial⟩ ⟨rfl, ⟨rfl, rfl⟩, trivial⟩) ?_
  rintro v1 o H
  try dsimp only
  refine wkd ?_
  refine awc_cond rfl (fun h => ?_) (fun h => ?_)
  · have H := bt h H
    refine wkd ?_
    obtain ⟨x2, hx2, H⟩ := ob H
    refine dr_n rfl (xdT (enc := eI) hx2 (fun _ => rfl) rfl rfl rfl) ?_
    refine wkd ?_
    obtain ⟨r3, hr3, H⟩ := ob H
    refine dr_n rfl (ca rfl rfl rfl (sl1In_c hr3) trivial rfl rfl rfl rfl) ?_
    refine wkd ?_
    obtain ⟨v4, Hj, H⟩ := ob H
    refine dr_join ⟨[(1, .v (.c (.p 0 0))), (3, tI v1), (35, tB v4)], [(0, .var 115 [.d false (.i .i64 a0.RateLimit), .d false (.i .i64 a0.BestClass), .d false (.i .i64 a0.GrantSize), .d false (.l (a0.RoamingNetworks.map eI))])], 1⟩ ?_ ?_
    · have H := Hj
      refine wkd ?_
      refine dg2 rfl rfl rfl (fun h => ?_) (fun h => ?_)
      · have H := bt h H
        refine wkd ?_
        cases H
        exact weak_of ⟨rfl, rfl, rfl, rfl, rfl, rfl, trivial⟩ ⟨rfl, ⟨rfl, rfl⟩, trivial⟩
      · have H := bf h H
        refine wkd ?_
        refine dg2 rfl rfl rfl (fun h => ?_) (fun h => ?_)
        · have H := bt h H
          refine wkd ?_
          obtain ⟨x5, hx5, H⟩ := ob H
          refine dr_ng rfl rfl rfl rfl (xdT (enc := eI) hx5 (fun _ => rfl) rfl rfl rfl) ?_
          refine wkd ?_
          obtain ⟨x6, hx6, H⟩ := ob H
          refine dr_ng rfl rfl rfl rfl (xdT (enc := eI) hx6 (fun _ => rfl) rfl rfl rfl) ?_
          refine wkd ?_
          cases H
          exact weak_of ⟨rfl, rfl, rfl, rfl, rfl, rfl, trivial⟩ ⟨rfl, ⟨rfl, rfl⟩, trivial⟩
        · have H := bf h H
          refine wkd ?_
          cases H
          exact weak_of ⟨rfl, rfl, rfl, rfl, rfl, rfl, trivial⟩ ⟨rfl, ⟨rfl, rfl⟩, trivial⟩
    refine wkd ?_
    refine awc_cond rfl (fun h => ?_) (fun h => ?_)
    · have H := bt h H
      refine wkd ?_
      obtain ⟨r0, Hd, rfl⟩ := dnE H
      refine iq_r (fun hq => ?_)
      have H := Hd.trans (congrArg some hq)
      refine wkd ?_
      cases H
      exact fin_ret (.cons (.tmp rfl) .nil) rfl rfl rfl
    · have H := bf h H
      refine wkd ?_
      cases H
      refine iq_n ?_
      exact weak_of ⟨rfl, rfl, rfl, rfl, trivial⟩ ⟨rfl, ⟨rfl, rfl⟩, trivial⟩
  · have H := bf h H
    refine wkd ?_
    obtain ⟨r0, Hd, rfl⟩ := dnE H
    refine iq_e (fun hq => ?_)
    have H := Hd.trans (congrArg some hq)
    refine wkd ?_
    obtain ⟨r7, hr7, H⟩ := ob H
    refine awr_n rfl (ca rfl rfl rfl (sl1In_c hr7) trivial rfl rfl rfl rfl) ?_
    refine wkd ?_
    obtain ⟨v8, Hj, H⟩ := ob H
    refine awr_join ⟨[(2, tB v8)], [], 0⟩ ?_ ?_
    · have H := Hj
      refine wkd ?_
      refine g2 rfl rfl rfl (fun h => ?_) (fun h => ?_)
      · have H := bt h H
        refine wkd ?_
        obtain ⟨r9, hr9, H⟩ := ob H
        refine awr_ng rfl rfl rfl rfl (ca rfl rfl rfl (sl1In_c hr9) trivial rfl rfl rfl rfl) ?_
        refine wkd ?_
        refine g2 rfl rfl rfl (fun h => ?_) (fun h => ?_)
        · have H := bt h H
          refine wkd ?_
          obtain ⟨r10, hr10, H⟩ := ob H
          refine awr_ng rfl rfl rfl rfl (ca rfl rfl rfl (sl1In_c hr10) trivial rfl rfl rfl rfl) ?_
          refine wkd ?_
          cases H
          exact weak_of ⟨rfl, rfl, trivial⟩ trivial
        · have H := bf h H
          refine wkd ?_
          cases H
          exact weak_of ⟨rfl, rfl, trivial⟩ trivial
      · have H := bf h H
        refine wkd ?_
        cases H
        exact weak_of ⟨rfl, rfl, trivial⟩ trivial
    refine wkd ?_
    cases H
    exact fin_ret (.cons (.tmp rfl) .nil) rfl rfl rfl
def sIsValidPaging (a0 : TPagingState) : Option Bool :=
  Option.bind (sl1In a0.Area 0 2) fun r1 => Option.bind (bif r1 then (Option.bind (sl1In a0.Attempt 0 4) fun r3 => bif r3 then (Option.bind (sl1In a0.Wait 0 3) fun r4 => some r4) else (some false)) else (some false)) fun (v2 : Bool) => some v2
theorem sIsValidPaging_c {a0 : TPagingState} {r : Bool} (H : sIsValidPaging a0 = some r) : Fn Tryz.prog 208 [.agg (eTPagingState a0)] [.c (.d (.b r))] := by
  refine fn_in Tryz.func208 rfl (by kernel_rfl) Tryz.ntmps208 rfl rfl rfl ?_
  refine wk ?_
  obtain ⟨r1, hr1, H⟩ := ob H
  refine awr_n rfl (ca rfl rfl rfl (sl1In_c hr1) trivial rfl rfl rfl rfl) ?_
  refine wk ?_
  obtain ⟨v2, Hj, H⟩ := ob H
  refine awr_join ⟨[(2, tB v2)], [], 0⟩ ?_ ?_
  · have H := Hj
    refine wk ?_
    refine g2 rfl rfl rfl (fun h => ?_) (fun h => ?_)
    · have H := bt h H
      refine wk ?_
      obtain ⟨r3, hr3, H⟩ := ob H
      refine awr_ng rfl rfl rfl rfl (ca rfl rfl rfl (sl1In_c hr3) trivial rfl rfl rfl rfl) ?_
      refine wk ?_
      refine g2 rfl rfl rfl (fun h => ?_) (fun h => ?_)
      · have H := bt h H
        refine wk ?_
        obtain ⟨r4, hr4, H⟩ := ob H
        refine awr_ng rfl rfl rfl rfl (ca rfl rfl rfl (sl1In_c hr4) trivial rfl rfl rfl rfl) ?_
        refine wk ?_
        cases H
        exact weak_of ⟨rfl, rfl, trivial⟩ trivial
      · have H := bf h H
        refine wk ?_
        cases H
        exact weak_of ⟨rfl, rfl, trivial⟩ trivial
    · have H := bf h H
      refine wk ?_
      cases H
      exact weak_of ⟨rfl, rfl, trivial⟩ trivial
  refine wk ?_
  cases H
  exact fin_ret (.cons (.tmp rfl) .nil) rfl rfl rfl
def sIsValidQuota (a0 : TQuota) : Option Bool :=
  Option.bind (bif leB 0 a0.SessionID then (Option.bind (sl1In a0.Granted 0 100000) fun r2 => bif r2 then (Option.bind (sl1In a0.Used 0 a0.Granted) fun r3 => some r3) else (some false)) else (some false)) fun (v1 : Bool) => some v1
theorem sIsValidQuota_c {a0 : TQuota} {r : Bool} (H : sIsValidQuota a0 = some r) : Fn Tryz.prog 209 [.agg (eTQuota a0)] [.c (.d (.b r))] := by
  refine fn_in Tryz.func209 rfl (by kernel_rfl) Tryz.ntmps209 rfl rfl rfl ?_
  refine wk ?_
  obtain ⟨v1, Hj, H⟩ := ob H
  refine awr_join ⟨[(2, tB v1)], [], 0⟩ ?_ ?_
  · have H := Hj
    refine wk ?_
    refine g2 rfl rfl rfl (fun h => ?_) (fun h => ?_)
    · have H := bt h H
      refine wk ?_
      obtain ⟨r2, hr2, H⟩ := ob H
      refine awr_ng rfl rfl rfl rfl (ca rfl rfl rfl (sl1In_c hr2) trivial rfl rfl rfl rfl) ?_
      refine wk ?_
      refine g2 rfl rfl rfl (fun h => ?_) (fun h => ?_)
      · have H := bt h H
        refine wk ?_
        obtain ⟨r3, hr3, H⟩ := ob H
        refine awr_ng rfl rfl rfl rfl (ca rfl rfl rfl (sl1In_c hr3) trivial rfl rfl rfl rfl) ?_
        refine wk ?_
        cases H
        exact weak_of ⟨rfl, rfl, trivial⟩ trivial
      · have H := bf h H
        refine wk ?_
        cases H
        exact weak_of ⟨rfl, rfl, trivial⟩ trivial
    · have H := bf h H
      refine wk ?_
      cases H
      exact weak_of ⟨rfl, rfl, trivial⟩ trivial
  refine wk ?_
  cases H
  exact fin_ret (.cons (.tmp rfl) .nil) rfl rfl rfl
def sIsValidSender_L1 (a0 : TSendWindow) : Int → Option (Step (Int) (Bool))
  | v1 => bif ltB v1 ((a0.Unacked.length : Nat) : Int) then (Option.bind (ix a0.Unacked v1) fun x2 => Option.bind (bif !eqB x2.Seq (WR ((WR (a0.Next - ((a0.Unacked.length : Nat) : Int))) + v1)) then (some true) else (Option.bind (ix a0.Unacked v1) fun x4 => some (ltB 60 ((x4.Data.length : Nat) : Int)))) fun (v3 : Bool) => bif v3 then (dn (some false)) else (some (.next (WR (v1 + 1))))) else (dn (Option.bind (sl1In a0.Next 1 100000) fun r5 => Option.bind (bif r5 then (bif leB ((a0.Unacked.length : Nat) : Int) 8 then (some (leB 1 (WR (a0.Next - ((a0.Unacked.length : Nat) : Int))))) else (some false)) else (some false)) fun (v6 : Bool) => some v6))
def sIsValidSender (a0 : TSendWindow) : Option Bool :=
  iter (sIsValidSender_L1 a0) FU 0
theorem sIsValidSender_c {a0 : TSendWindow} {r : Bool} (H : sIsValidSender a0 = some r) : Fn Tryz.prog 239 [.agg (eTSendWindow a0)] [.c (.d (.b r))] := by
  refine fn_in Tryz.func239 rfl (by kernel_rfl) Tryz.ntmps239 rfl rfl rfl ?_
  refine wkd ?_
  refine awc_iter (fun (q : Int) => ⟨[(1, .v (.c (.p 0 0))), (3, tI q)], [(0, .var 121 [.d false (.i .i64 a0.Next), .d false (.l (a0.Unacked.map eTNumberedPacket))])], 1⟩) H (weak_of ⟨rfl, rfl, rfl, rfl, trivial⟩ ⟨rfl, ⟨rfl, rfl⟩, trivial⟩) ?_
  rintro v1 o H
  try dsimp only
  refine wkd ?_
  refine awc_cond rfl (fun h => ?_) (fun h => ?_)
  · have H := bt h H
    refine wkd ?_
    obtain ⟨x2, hx2, H⟩ := ob H
    refine dr_n rfl (xdT (enc := eTNumberedPacket) hx2 (fun _ => rfl) rfl rfl rfl) ?_
    refine wkd ?_
    obtain ⟨v3, Hj, H⟩ := ob H
    refine dr_join ⟨[(1, .v (.c (.p 0 0))), (3, tI v1), (35, tB v3)], [(0, .var 121 [.d false (.i .i64 a0.Next), .d false (.l (a0.Unacked.map eTNumberedPacket))])], 1⟩ ?_ ?_
    · have H := Hj
      refine wkd ?_
      refine dg2 rfl rfl rfl (fun h => ?_) (fun h => ?_)
      · have H := bt h H
        refine wkd ?_
        cases H
        exact weak_of ⟨rfl, rfl, rfl, rfl, rfl, rfl, trivial⟩ ⟨rfl, ⟨rfl, rfl⟩, trivial⟩
      · have H := bf h H
        refine wkd ?_
        obtain ⟨x4, hx4, H⟩ := ob H
        refine dr_ng rfl rfl rfl rfl (xdT (enc := eTNumberedPacket) hx4 (fun _ => rfl) rfl rfl rfl) ?_
        refine wkd ?_
        cases H
        exact weak_of ⟨rfl, rfl, rfl, rfl, rfl, rfl, trivial⟩ ⟨rfl, ⟨rfl, rfl⟩, trivial⟩
    refine wkd ?_
    refine awc_cond rfl (fun h => ?_) (fun h => ?_)
    · have H := bt h H
      refine wkd ?_
      obtain ⟨r0, Hd, rfl⟩ := dnE H
      refine iq_r (fun hq => ?_)
      have H := Hd.trans (congrArg some hq)
      refine wkd ?_
      cases H
      exact fin_ret (.cons (.tmp rfl) .nil) rfl rfl rfl
    · have H := bf h H
      refine wkd ?_
      cases H
      refine iq_n ?_
      exact weak_of ⟨rfl, rfl, rfl, rfl, trivial⟩ ⟨rfl, ⟨rfl, rfl⟩, trivial⟩
  · have H := bf h H
    refine wkd ?_
    obtain ⟨r0, Hd, rfl⟩ := dnE H
    refine iq_e (fun hq => ?_)
    have H := Hd.trans (congrArg some hq)
    refine wkd ?_
    obtain ⟨r5, hr5, H⟩ := ob H
    refine awr_n rfl (ca rfl rfl rfl (sl1In_c hr5) trivial rfl rfl rfl rfl) ?_
    refine wkd ?_
    obtain ⟨v6, Hj, H⟩ := ob H
    refine awr_join ⟨[(2, tB v6)], [], 0⟩ ?_ ?_
    · have H := Hj
      refine wkd ?_
      refine g2 rfl rfl rfl (fun h => ?_) (fun h => ?_)
      · have H := bt h H
        refine wkd ?_
        refine g2 rfl rfl rfl (fun h => ?_) (fun h => ?_)
        · have H := bt h H
          refine wkd ?_
          cases H
          exact weak_of ⟨rfl, rfl, trivial⟩ trivial
        · have H := bf h H
          refine wkd ?_
          cases H
          exact weak_of ⟨rfl, rfl, trivial⟩ trivial
      · have H := bf h H
        refine wkd ?_
        cases H
        exact weak_of ⟨rfl, rfl, trivial⟩ trivial
    refine wkd ?_
    cases H
    exact fin_ret (.cons (.tmp rfl) .nil) rfl rfl rfl
def sl30Bytes_L1 (a0 : List TNumberedPacket) : (Int × Int) → Option (Step (Int × Int) (Int))
  | (v1, v2) => bif ltB v2 ((a0.length : Nat) : Int) then (Option.bind (ix a0 v2) fun x5 => some (.next (WR (v1 + ((x5.Data.length : Nat) : Int)), WR (v2 + 1)))) else (some (.done v1))
def sl30Bytes (a0 : List TNumberedPacket) : Option Int :=
  Option.bind (iter (sl30Bytes_L1 a0) FU (0, 0)) fun (v4 : Int) => some v4
theorem sl30Bytes_c {a0 : List TNumberedPacket} {r : Int} (H : sl30Bytes a0 = some r) : Fn Tryz.prog 240 [aL (a0.map eTNumberedPacket)] [.c (.d (.i .i64 r))] := by
  refine fn_in Tryz.func240 rfl (by kernel_rfl) Tryz.ntmps240 rfl rfl rfl ?_
  refine wk ?_
  obtain ⟨v4, Hj, H⟩ := ob H
  refine awc_jblk ⟨[(3, tI v4)], [], 0⟩ ?_ ?_
  · refine wk ?_
    refine awc_iter (fun (q : Int × Int) => ⟨[(0, .v (.c (.d false (.l (a0.map eTNumberedPacket))))), (3, tI q.1), (4, tI q.2)], [], 0⟩) Hj (weak_of ⟨rfl, rfl, rfl, rfl, rfl, rfl, trivial⟩ trivial) ?_
    rintro ⟨v1, v2⟩ o H
    try dsimp only
    refine wk ?_
    refine awc_cond rfl (fun h => ?_) (fun h => ?_)
    · have H := bt h H
      refine wk ?_
      obtain ⟨x5, hx5, H⟩ := ob H
      refine awr_n rfl (xdT (enc := eTNumberedPacket) hx5 (fun _ => rfl) rfl rfl rfl) ?_
      refine wk ?_
      cases H
      refine iq_n ?_
      exact weak_of ⟨rfl, rfl, rfl, rfl, rfl, rfl, trivial⟩ trivial
    · have H := bf h H
      refine wk ?_
      cases H
      refine iq_e (fun hq => ?_)
      cases hq
      refine wk ?_
      exact weak_of ⟨rfl, rfl, trivial⟩ trivial
  refine wk ?_
  cases H
  exact fin_ret (.cons (.tmp rfl) .nil) rfl rfl rfl
def sRemainingQuota (a0 : TQuota) : Option Int :=
  Option.bind (sIsValidQuota a0) fun r1 => bif !r1 then (some 0) else (some (WR (a0.Granted - a0.Used)))
theorem sRemainingQuota_c {a0 : TQuota} {r : Int} (H : sRemainingQuota a0 = some r) : Fn Tryz.prog 241 [.agg (eTQuota a0)] [.c (.d (.i .i64 r))] := by
  refine fn_in Tryz.func241 rfl (by kernel_rfl) Tryz.ntmps241 rfl rfl rfl ?_
  refine wk ?_
  obtain ⟨r1, hr1, H⟩ := ob H
  refine awr_n rfl (ca rfl rfl rfl (sIsValidQuota_c hr1) trivial rfl rfl rfl rfl) ?_
  refine wk ?_
  refine awc_cond rfl (fun h => ?_) (fun h => ?_)
  · have H := bt h H
    refine wk ?_
    cases H
    exact fin_ret (.cons (.tmp rfl) .nil) rfl rfl rfl
  · have H := bf h H
    refine wk ?_
    cases H
    exact fin_ret (.cons (.tmp rfl) .nil) rfl rfl rfl
def sl30Stream_L2 (a0 : TSession) : Int → Option (Step (Int) (Bool))
  | v5 => bif ltB v5 ((a0.Window.Unacked.length : Nat) : Int) then (Option.bind (ix a0.Window.Unacked v5) fun x6 => Option.bind (ix a0.Submitted (WR (x6.Seq - 1))) fun x7 => Option.bind (sEqualBytes x6.Data x7.Data) fun r8 => bif !r8 then (dn (some false)) else (some (.next (WR (v5 + 1))))) else (dn (Option.bind (sl30Bytes a0.Window.Unacked) fun r9 => Option.bind (sRemainingQuota a0.Usage) fun r10 => some (leB r9 r10)))
def sl30Stream_L1 (a0 : TSession) : Int → Option (Step (Int) (Bool))
  | v1 => bif ltB v1 ((a0.Submitted.length : Nat) : Int) then (Option.bind (ix a0.Submitted v1) fun x2 => bif ltB 60 ((x2.Data.length : Nat) : Int) then (dn (some false)) else (some (.next (WR (v1 + 1))))) else (dn (Option.bind (bif ltB 24 ((a0.Submitted.length : Nat) : Int) then (some true) else (Option.bind (sIsValidSender a0.Window) fun r4 => bif !r4 then (some true) else (some (ltB (WR (((a0.Submitted.length : Nat) : Int) + 1)) a0.Window.Next)))) fun (v3 : Bool) => bif v3 then (some false) else (iter (sl30Stream_L2 a0) FU 0)))
def sl30Stream (a0 : TSession) : Option Bool :=
  iter (sl30Stream_L1 a0) FU 0
theorem sl30Stream_c {a0 : TSession} {r : Bool} (H : sl30Stream a0 = some r) : Fn Tryz.prog 210 [.agg (eTSession a0)] [.c (.d (.b r))] := by
  refine fn_in Tryz.func210 rfl (by kernel_rfl) Tryz.ntmps210 rfl rfl rfl ?_
  refine wkd ?_
  refine awc_iter (fun (q : Int) => ⟨[(1, .v (.c (.p 0 0))), (3, tI q)], [(0, .var 125 [.d false (.i .i64 a0.Record.ID.Network), .d false (.i .i64 a0.Record.ID.Number), .d false (.i .i64 a0.Record.Key), .d false (.i .i64 a0.Record.Seq), .d false (.i .i64 a0.Plan.RateLimit), .d false (.i .i64 a0.Plan.BestClass), .d false (.i .i64 a0.Plan.GrantSize), .d false (.l (a0.Plan.RoamingNetworks.map eI)), .d false (.i .i64 a0.State), .d false (.i .i64 a0.Pending.Rand), .d false (.i .i64 a0.Pending.Autn), .d false (.i .i64 a0.Pending.MAC), .d false (.i .i64 a0.Pending.Res), .d false (.i .i64 a0.Pending.Key), .d false (.i .i64 a0.PendingSeq), .d false (.i .i64 a0.Generation), .d false (.i .i64 a0.RootKey), .d false (.i .i64 a0.Epoch), .d false (.i .i64 a0.Cell), .d false (.i .i64 a0.Quiet), .d false (.i .i64 a0.Page.Area), .d false (.i .i64 a0.Page.Attempt), .d false (.i .i64 a0.Page.Wait), .d false (.l (a0.Submitted.map eTPayload)), .d false (.i .i64 a0.Window.Next), .d false (.l (a0.Window.Unacked.map eTNumberedPacket)), .d false (.i .i64 a0.Retry), .d false (.i .i64 a0.Usage.SessionID), .d false (.i .i64 a0.Usage.Granted), .d false (.i .i64 a0.Usage.Used)])], 1⟩) H (weak_of ⟨rfl, rfl, rfl, rfl, trivial⟩ ⟨rfl, ⟨rfl, rfl⟩, trivial⟩) ?_
  rintro v1 o H
  try dsimp only
  refine wkd ?_
  refine awc_cond rfl (fun h => ?_) (fun h => ?_)
  · have H := bt h H
    refine wkd ?_
    obtain ⟨x2, hx2, H⟩ := ob H
    refine awr_n rfl (xdT (enc := eTPayload) hx2 (fun _ => rfl) rfl rfl rfl) ?_
    refine wkd ?_
    refine awc_cond rfl (fun h => ?_) (fun h => ?_)
    · have H := bt h H
      refine wkd ?_
      obtain ⟨r0, Hd, rfl⟩ := dnE H
      refine iq_r (fun hq => ?_)
      have H := Hd.trans (congrArg some hq)
      refine wkd ?_
      cases H
      exact fin_ret (.cons (.tmp rfl) .nil) rfl rfl rfl
    · have H := bf h H
      refine wkd ?_
      cases H
      refine iq_n ?_
      exact weak_of ⟨rfl, rfl, rfl, rfl, trivial⟩ ⟨rfl, ⟨rfl, rfl⟩, trivial⟩
  · have H := bf h H
    refine wkd ?_
    obtain ⟨r0, Hd, rfl⟩ := dnE H
    refine iq_e (fun hq => ?_)
    have H := Hd.trans (congrArg some hq)
    refine wkd ?_
    obtain ⟨v3, Hj, H⟩ := ob H
    refine awr_join ⟨[(1, .v (.c (.p 0 0))), (40, tB v3)], [(0, .var 125 [.d false (.i .i64 a0.Record.ID.Network), .d false (.i .i64 a0.Record.ID.Number), .d false (.i .i64 a0.Record.Key), .d false (.i .i64 a0.Record.Seq), .d false (.i .i64 a0.Plan.RateLimit), .d false (.i .i64 a0.Plan.BestClass), .d false (.i .i64 a0.Plan.GrantSize), .d false (.l (a0.Plan.RoamingNetworks.map eI)), .d false (.i .i64 a0.State), .d false (.i .i64 a0.Pending.Rand), .d false (.i .i64 a0.Pending.Autn), .d false (.i .i64 a0.Pending.MAC), .d false (.i .i64 a0.Pending.Res), .d false (.i .i64 a0.Pending.Key), .d false (.i .i64 a0.PendingSeq), .d false (.i .i64 a0.Generation), .d false (.i .i64 a0.RootKey), .d false (.i .i64 a0.Epoch), .d false (.i .i64 a0.Cell), .d false (.i .i64 a0.Quiet), .d false (.i .i64 a0.Page.Area), .d false (.i .i64 a0.Page.Attempt), .d false (.i .i64 a0.Page.Wait), .d false (.l (a0.Submitted.map eTPayload)), .d false (.i .i64 a0.Window.Next), .d false (.l (a0.Window.Unacked.map eTNumberedPacket)), .d false (.i .i64 a0.Retry), .d false (.i .i64 a0.Usage.SessionID), .d false (.i .i64 a0.Usage.Granted), .d false (.i .i64 a0.Usage.Used)])], 1⟩ ?_ ?_
    · have H := Hj
      refine wkd ?_
      refine g2 rfl rfl rfl (fun h => ?_) (fun h => ?_)
      · have H := bt h H
        refine wkd ?_
        cases H
        exact weak_of ⟨rfl, rfl, rfl, rfl, trivial⟩ ⟨rfl, ⟨rfl, rfl⟩, trivial⟩
      · have H := bf h H
        refine wkd ?_
        obtain ⟨r4, hr4, H⟩ := ob H
        refine awr_ng rfl rfl rfl rfl (ca rfl rfl rfl (sIsValidSender_c hr4) trivial rfl rfl rfl rfl) ?_
        refine wkd ?_
        refine g2 rfl rfl rfl (fun h => ?_) (fun h => ?_)
        · have H := bt h H
          refine wkd ?_
          cases H
          exact weak_of ⟨rfl, rfl, rfl, rfl, trivial⟩ ⟨rfl, ⟨rfl, rfl⟩, trivial⟩
        · have H := bf h H
          refine wkd ?_
          cases H
          exact weak_of ⟨rfl, rfl, rfl, rfl, trivial⟩ ⟨rfl, ⟨rfl, rfl⟩, trivial⟩
    refine wkd ?_
    refine awc_cond rfl (fun h => ?_) (fun h => ?_)
    · have H := bt h H
      refine wkd ?_
      cases H
      exact fin_ret (.cons (.tmp rfl) .nil) rfl rfl rfl
    · have H := bf h H
      refine wkd ?_
      refine awc_iter (fun (q : Int) => ⟨[(1, .v (.c (.p 0 0))), (4, tI q)], [(0, .var 125 [.d false (.i .i64 a0.Record.ID.Network), .d false (.i .i64 a0.Record.ID.Number), .d false (.i .i64 a0.Record.Key), .d false (.i .i64 a0.Record.Seq), .d false (.i .i64 a0.Plan.RateLimit), .d false (.i .i64 a0.Plan.BestClass), .d false (.i .i64 a0.Plan.GrantSize), .d false (.l (a0.Plan.RoamingNetworks.map eI)), .d false (.i .i64 a0.State), .d false (.i .i64 a0.Pending.Rand), .d false (.i .i64 a0.Pending.Autn), .d false (.i .i64 a0.Pending.MAC), .d false (.i .i64 a0.Pending.Res), .d false (.i .i64 a0.Pending.Key), .d false (.i .i64 a0.PendingSeq), .d false (.i .i64 a0.Generation), .d false (.i .i64 a0.RootKey), .d false (.i .i64 a0.Epoch), .d false (.i .i64 a0.Cell), .d false (.i .i64 a0.Quiet), .d false (.i .i64 a0.Page.Area), .d false (.i .i64 a0.Page.Attempt), .d false (.i .i64 a0.Page.Wait), .d false (.l (a0.Submitted.map eTPayload)), .d false (.i .i64 a0.Window.Next), .d false (.l (a0.Window.Unacked.map eTNumberedPacket)), .d false (.i .i64 a0.Retry), .d false (.i .i64 a0.Usage.SessionID), .d false (.i .i64 a0.Usage.Granted), .d false (.i .i64 a0.Usage.Used)])], 1⟩) H (weak_of ⟨rfl, rfl, rfl, rfl, trivial⟩ ⟨rfl, ⟨rfl, rfl⟩, trivial⟩) ?_
      rintro v5 o H
      try dsimp only
      refine wkd ?_
      refine awc_cond rfl (fun h => ?_) (fun h => ?_)
      · have H := bt h H
        refine wkd ?_
        obtain ⟨x6, hx6, H⟩ := ob H
        refine awr_n rfl (xdT (enc := eTNumberedPacket) hx6 (fun _ => rfl) rfl rfl rfl) ?_
        refine wkd ?_
        obtain ⟨x7, hx7, H⟩ := ob H
        refine dr_n rfl (xdT (enc := eTPayload) hx7 (fun _ => rfl) rfl rfl rfl) ?_
        refine wkd ?_
        obtain ⟨r8, hr8, H⟩ := ob H
        refine dr_n rfl (ca rfl rfl rfl (sEqualBytes_c hr8) trivial rfl rfl rfl rfl) ?_
        refine wkd ?_
        refine awc_cond rfl (fun h => ?_) (fun h => ?_)
        · have H := bt h H
          refine wkd ?_
          obtain ⟨r0, Hd, rfl⟩ := dnE H
          refine iq_r (fun hq => ?_)
          have H := Hd.trans (congrArg some hq)
          refine wkd ?_
          cases H
          exact fin_ret (.cons (.tmp rfl) .nil) rfl rfl rfl
        · have H := bf h H
          refine wkd ?_
          cases H
          refine iq_n ?_
          exact weak_of ⟨rfl, rfl, rfl, rfl, trivial⟩ ⟨rfl, ⟨rfl, rfl⟩, trivial⟩
      · have H := bf h H
        refine wkd ?_
        obtain ⟨r0, Hd, rfl⟩ := dnE H
        refine iq_e (fun hq => ?_)
        have H := Hd.trans (congrArg some hq)
        refine wkd ?_
        obtain ⟨r9, hr9, H⟩ := ob H
        refine dr_n rfl (ca rfl rfl rfl (sl30Bytes_c hr9) trivial rfl rfl rfl rfl) ?_
        refine wkd ?_
        obtain ⟨r10, hr10, H⟩ := ob H
        refine dr_n rfl (ca rfl rfl rfl (sRemainingQuota_c hr10) trivial rfl rfl rfl rfl) ?_
        refine wkd ?_
        cases H
        exact fin_ret (.cons (.tmp rfl) .nil) rfl rfl rfl
def sIsValidSession (a0 : TSession) : Option Bool :=
  Option.bind (bif eqB a0.State 1 then (Option.bind (sIsValidKey a0.RootKey) fun r2 => bif !r2 then (some true) else (bif ltB 0 a0.PendingSeq then (Option.bind (sIsValidKey a0.Pending.Key) fun r3 => bif !r3 then (some true) else (Option.bind (sl1In a0.State 0 1) fun r4 => some (!r4))) else (Option.bind (sl1In a0.State 0 1) fun r5 => some (!r5)))) else (bif ltB 0 a0.PendingSeq then (Option.bind (sIsValidKey a0.Pending.Key) fun r6 => bif !r6 then (some true) else (Option.bind (sl1In a0.State 0 1) fun r7 => some (!r7))) else (Option.bind (sl1In a0.State 0 1) fun r8 => some (!r8)))) fun (v1 : Bool) => bif v1 then (some false) else (Option.bind (sIsValidSubscriberRecord a0.Record) fun r9 => Option.bind (bif !r9 then (some true) else (Option.bind (sIsValidSubscription a0.Plan) fun r11 => bif !r11 then (some true) else (Option.bind (sIsValidPaging a0.Page) fun r12 => bif !r12 then (some true) else (Option.bind (sIsValidQuota a0.Usage) fun r13 => bif !r13 then (some true) else (Option.bind (sl30Stream a0) fun r14 => some (!r14)))))) fun (v10 : Bool) => bif v10 then (some false) else (Option.bind (sl1In a0.PendingSeq 0 999999) fun r15 => Option.bind (bif !r15 then (some true) else (Option.bind (sl1In a0.Generation 0 999999) fun r17 => bif !r17 then (some true) else (Option.bind (sl1In a0.Epoch 0 999999) fun r18 => bif !r18 then (some true) else (Option.bind (sl1In a0.RootKey 0 2147483646) fun r19 => some (!r19))))) fun (v16 : Bool) => bif v16 then (some false) else (Option.bind (sl1In a0.Cell 0 5) fun r20 => Option.bind (bif r20 then (Option.bind (sl1In a0.Quiet 0 5) fun r22 => bif r22 then (Option.bind (sl1In a0.Retry 0 3) fun r23 => some r23) else (some false)) else (some false)) fun (v21 : Bool) => some v21)))
theorem sIsValidSession_c {a0 : TSession} {r : Bool} (H : sIsValidSession a0 = some r) : Fn Tryz.prog 167 [.agg (eTSession a0)] [.c (.d (.b r))] := by
  refine fn_in Tryz.func167 rfl (by kernel_rfl) Tryz.ntmps167 rfl rfl rfl ?_
  refine wk ?_
  obtain ⟨v1, Hj, H⟩ := ob H
  refine awr_join ⟨[(1, .v (.c (.p 0 0))), (29, tB v1)], [(0, .var 125 [.d false (.i .i64 a0.Record.ID.Network), .d false (.i .i64 a0.Record.ID.Number), .d false (.i .i64 a0.Record.Key), .d false (.i .i64 a0.Record.Seq), .d false (.i .i64 a0.Plan.RateLimit), .d false (.i .i64 a0.Plan.BestClass), .d false (.i .i64 a0.Plan.GrantSize), .d false (.l (a0.Plan.RoamingNetworks.map eI)), .d false (.i .i64 a0.State), .d false (.i .i64 a0.Pending.Rand), .d false (.i .i64 a0.Pending.Autn), .d false (.i .i64 a0.Pending.MAC), .d false (.i .i64 a0.Pending.Res), .d false (.i .i64 a0.Pending.Key), .d false (.i .i64 a0.PendingSeq), .d false (.i .i64 a0.Generation), .d false (.i .i64 a0.RootKey), .d false (.i .i64 a0.Epoch), .d false (.i .i64 a0.Cell), .d false (.i .i64 a0.Quiet), .d false (.i .i64 a0.Page.Area), .d false (.i .i64 a0.Page.Attempt), .d false (.i .i64 a0.Page.Wait), .d false (.l (a0.Submitted.map eTPayload)), .d false (.i .i64 a0.Window.Next), .d false (.l (a0.Window.Unacked.map eTNumberedPacket)), .d false (.i .i64 a0.Retry), .d false (.i .i64 a0.Usage.SessionID), .d false (.i .i64 a0.Usage.Granted), .d false (.i .i64 a0.Usage.Used)])], 1⟩ ?_ ?_
  · have H := Hj
    refine wk ?_
    refine g2 rfl rfl rfl (fun h => ?_) (fun h => ?_)
    · have H := bt h H
      refine wk ?_
      obtain ⟨r2, hr2, H⟩ := ob H
      refine awr_ng rfl rfl rfl rfl (ca rfl rfl rfl (sIsValidKey_c hr2) trivial rfl rfl rfl rfl) ?_
      refine wk ?_
      refine g2 rfl rfl rfl (fun h => ?_) (fun h => ?_)
      · have H := bt h H
        refine wk ?_
        cases H
        exact weak_of ⟨rfl, rfl, rfl, rfl, trivial⟩ ⟨rfl, ⟨rfl, rfl⟩, trivial⟩
      · have H := bf h H
        refine wk ?_
        refine g2 rfl rfl rfl (fun h => ?_) (fun h => ?_)
        · have H := bt h H
          refine wk ?_
          obtain ⟨r3, hr3, H⟩ := ob H
          refine awr_ng rfl rfl rfl rfl (ca rfl rfl rfl (sIsValidKey_c hr3) trivial rfl rfl rfl rfl) ?_
          refine wk ?_
          refine g2 rfl rfl rfl (fun h => ?_) (fun h => ?_)
          · have H := bt h H
            refine wk ?_
            cases H
            exact weak_of ⟨rfl, rfl, rfl, rfl, trivial⟩ ⟨rfl, ⟨rfl, rfl⟩, trivial⟩
          · have H := bf h H
            refine wk ?_
            obtain ⟨r4, hr4, H⟩ := ob H
            refine awr_ng rfl rfl rfl rfl (ca rfl rfl rfl (sl1In_c hr4) trivial rfl rfl rfl rfl) ?_
            refine wk ?_
            cases H
            exact weak_of ⟨rfl, rfl, rfl, rfl, trivial⟩ ⟨rfl, ⟨rfl, rfl⟩, trivial⟩
        · have H := bf h H
          refine wk ?_
          obtain ⟨r5, hr5, H⟩ := ob H
          refine awr_ng rfl rfl rfl rfl (ca rfl rfl rfl (sl1In_c hr5) trivial rfl rfl rfl rfl) ?_
          refine wk ?_
          cases H
          exact weak_of ⟨rfl, rfl, rfl, rfl, trivial⟩ ⟨rfl, ⟨rfl, rfl⟩, trivial⟩
    · have H := bf h H
      refine wk ?_
      refine g2 rfl rfl rfl (fun h => ?_) (fun h => ?_)
      · have H := bt h H
        refine wk ?_
        obtain ⟨r6, hr6, H⟩ := ob H
        refine awr_ng rfl rfl rfl rfl (ca rfl rfl rfl (sIsValidKey_c hr6) trivial rfl rfl rfl rfl) ?_
        refine wk ?_
        refine g2 rfl rfl rfl (fun h => ?_) (fun h => ?_)
        · have H := bt h H
          refine wk ?_
          cases H
          exact weak_of ⟨rfl, rfl, rfl, rfl, trivial⟩ ⟨rfl, ⟨rfl, rfl⟩, trivial⟩
        · have H := bf h H
          refine wk ?_
          obtain ⟨r7, hr7, H⟩ := ob H
          refine awr_ng rfl rfl rfl rfl (ca rfl rfl rfl (sl1In_c hr7) trivial rfl rfl rfl rfl) ?_
          refine wk ?_
          cases H
          exact weak_of ⟨rfl, rfl, rfl, rfl, trivial⟩ ⟨rfl, ⟨rfl, rfl⟩, trivial⟩
      · have H := bf h H
        refine wk ?_
        obtain ⟨r8, hr8, H⟩ := ob H
        refine awr_ng rfl rfl rfl rfl (ca rfl rfl rfl (sl1In_c hr8) trivial rfl rfl rfl rfl) ?_
        refine wk ?_
        cases H
        exact weak_of ⟨rfl, rfl, rfl, rfl, trivial⟩ ⟨rfl, ⟨rfl, rfl⟩, trivial⟩
  refine wk ?_
  refine awc_cond rfl (fun h => ?_) (fun h => ?_)
  · have H := bt h H
    refine wk ?_
    cases H
    exact fin_ret (.cons (.tmp rfl) .nil) rfl rfl rfl
  · have H := bf h H
    refine wk ?_
    obtain ⟨r9, hr9, H⟩ := ob H
    refine awr_n rfl (ca rfl rfl rfl (sIsValidSubscriberRecord_c hr9) trivial rfl rfl rfl rfl) ?_
    refine wk ?_
    obtain ⟨v10, Hj, H⟩ := ob H
    refine awr_join ⟨[(1, .v (.c (.p 0 0))), (56, tB v10)], [(0, .var 125 [.d false (.i .i64 a0.Record.ID.Network), .d false (.i .i64 a0.Record.ID.Number), .d false (.i .i64 a0.Record.Key), .d false (.i .i64 a0.Record.Seq), .d false (.i .i64 a0.Plan.RateLimit), .d false (.i .i64 a0.Plan.BestClass), .d false (.i .i64 a0.Plan.GrantSize), .d false (.l (a0.Plan.RoamingNetworks.map eI)), .d false (.i .i64 a0.State), .d false (.i .i64 a0.Pending.Rand), .d false (.i .i64 a0.Pending.Autn), .d false (.i .i64 a0.Pending.MAC), .d false (.i .i64 a0.Pending.Res), .d false (.i .i64 a0.Pending.Key), .d false (.i .i64 a0.PendingSeq), .d false (.i .i64 a0.Generation), .d false (.i .i64 a0.RootKey), .d false (.i .i64 a0.Epoch), .d false (.i .i64 a0.Cell), .d false (.i .i64 a0.Quiet), .d false (.i .i64 a0.Page.Area), .d false (.i .i64 a0.Page.Attempt), .d false (.i .i64 a0.Page.Wait), .d false (.l (a0.Submitted.map eTPayload)), .d false (.i .i64 a0.Window.Next), .d false (.l (a0.Window.Unacked.map eTNumberedPacket)), .d false (.i .i64 a0.Retry), .d false (.i .i64 a0.Usage.SessionID), .d false (.i .i64 a0.Usage.Granted), .d false (.i .i64 a0.Usage.Used)])], 1⟩ ?_ ?_
    · have H := Hj
      refine wk ?_
      refine g2 rfl rfl rfl (fun h => ?_) (fun h => ?_)
      · have H := bt h H
        refine wk ?_
        cases H
        exact weak_of ⟨rfl, rfl, rfl, rfl, trivial⟩ ⟨rfl, ⟨rfl, rfl⟩, trivial⟩
      · have H := bf h H
        refine wk ?_
        obtain ⟨r11, hr11, H⟩ := ob H
        refine awr_ng rfl rfl rfl rfl (ca rfl rfl rfl (sIsValidSubscription_c hr11) trivial rfl rfl rfl rfl) ?_
        refine wk ?_
        refine g2 rfl rfl rfl (fun h => ?_) (fun h => ?_)
        · have H := bt h H
          refine wk ?_
          cases H
          exact weak_of ⟨rfl, rfl, rfl, rfl, trivial⟩ ⟨rfl, ⟨rfl, rfl⟩, trivial⟩
        · have H := bf h H
          refine wk ?_
          obtain ⟨r12, hr12, H⟩ := ob H
          refine awr_ng rfl rfl rfl rfl (ca rfl rfl rfl (sIsValidPaging_c hr12) trivial rfl rfl rfl rfl) ?_
          refine wk ?_
          refine g2 rfl rfl rfl (fun h => ?_) (fun h => ?_)
          · have H := bt h H
            refine wk ?_
            cases H
            exact weak_of ⟨rfl, rfl, rfl, rfl, trivial⟩ ⟨rfl, ⟨rfl, rfl⟩, trivial⟩
          · have H := bf h H
            refine wk ?_
            obtain ⟨r13, hr13, H⟩ := ob H
            refine awr_ng rfl rfl rfl rfl (ca rfl rfl rfl (sIsValidQuota_c hr13) trivial rfl rfl rfl rfl) ?_
            refine wk ?_
            refine g2 rfl rfl rfl (fun h => ?_) (fun h => ?_)
            · have H := bt h H
              refine wk ?_
              cases H
              exact weak_of ⟨rfl, rfl, rfl, rfl, trivial⟩ ⟨rfl, ⟨rfl, rfl⟩, trivial⟩
            · have H := bf h H
              refine wk ?_
              obtain ⟨r14, hr14, H⟩ := ob H
              refine awr_ng rfl rfl rfl rfl (ca rfl rfl rfl (sl30Stream_c hr14) trivial rfl rfl rfl rfl) ?_
              refine wk ?_
              cases H
              exact weak_of ⟨rfl, rfl, rfl, rfl, trivial⟩ ⟨rfl, ⟨rfl, rfl⟩, trivial⟩
    refine wk ?_
    refine awc_cond rfl (fun h => ?_) (fun h => ?_)
    · have H := bt h H
      refine wk ?_
      cases H
      exact fin_ret (.cons (.tmp rfl) .nil) rfl rfl rfl
    · have H := bf h H
      refine wk ?_
      obtain ⟨r15, hr15, H⟩ := ob H
      refine awr_n rfl (ca rfl rfl rfl (sl1In_c hr15) trivial rfl rfl rfl rfl) ?_
      refine wk ?_
      obtain ⟨v16, Hj, H⟩ := ob H
      refine awr_join ⟨[(1, .v (.c (.p 0 0))), (78, tB v16)], [(0, .var 125 [.d false (.i .i64 a0.Record.ID.Network), .d false (.i .i64 a0.Record.ID.Number), .d false (.i .i64 a0.Record.Key), .d false (.i .i64 a0.Record.Seq), .d false (.i .i64 a0.Plan.RateLimit), .d false (.i .i64 a0.Plan.BestClass), .d false (.i .i64 a0.Plan.GrantSize), .d false (.l (a0.Plan.RoamingNetworks.map eI)), .d false (.i .i64 a0.State), .d false (.i .i64 a0.Pending.Rand), .d false (.i .i64 a0.Pending.Autn), .d false (.i .i64 a0.Pending.MAC), .d false (.i .i64 a0.Pending.Res), .d false (.i .i64 a0.Pending.Key), .d false (.i .i64 a0.PendingSeq), .d false (.i .i64 a0.Generation), .d false (.i .i64 a0.RootKey), .d false (.i .i64 a0.Epoch), .d false (.i .i64 a0.Cell), .d false (.i .i64 a0.Quiet), .d false (.i .i64 a0.Page.Area), .d false (.i .i64 a0.Page.Attempt), .d false (.i .i64 a0.Page.Wait), .d false (.l (a0.Submitted.map eTPayload)), .d false (.i .i64 a0.Window.Next), .d false (.l (a0.Window.Unacked.map eTNumberedPacket)), .d false (.i .i64 a0.Retry), .d false (.i .i64 a0.Usage.SessionID), .d false (.i .i64 a0.Usage.Granted), .d false (.i .i64 a0.Usage.Used)])], 1⟩ ?_ ?_
      · have H := Hj
        refine wk ?_
        refine g2 rfl rfl rfl (fun h => ?_) (fun h => ?_)
        · have H := bt h H
          refine wk ?_
          cases H
          exact weak_of ⟨rfl, rfl, rfl, rfl, trivial⟩ ⟨rfl, ⟨rfl, rfl⟩, trivial⟩
        · have H := bf h H
          refine wk ?_
          obtain ⟨r17, hr17, H⟩ := ob H
          refine awr_ng rfl rfl rfl rfl (ca rfl rfl rfl (sl1In_c hr17) trivial rfl rfl rfl rfl) ?_
          refine wk ?_
          refine g2 rfl rfl rfl (fun h => ?_) (fun h => ?_)
          · have H := bt h H
            refine wk ?_
            cases H
            exact weak_of ⟨rfl, rfl, rfl, rfl, trivial⟩ ⟨rfl, ⟨rfl, rfl⟩, trivial⟩
          · have H := bf h H
            refine wk ?_
            obtain ⟨r18, hr18, H⟩ := ob H
            refine awr_ng rfl rfl rfl rfl (ca rfl rfl rfl (sl1In_c hr18) trivial rfl rfl rfl rfl) ?_
            refine wk ?_
            refine g2 rfl rfl rfl (fun h => ?_) (fun h => ?_)
            · have H := bt h H
              refine wk ?_
              cases H
              exact weak_of ⟨rfl, rfl, rfl, rfl, trivial⟩ ⟨rfl, ⟨rfl, rfl⟩, trivial⟩
            · have H := bf h H
              refine wk ?_
              obtain ⟨r19, hr19, H⟩ := ob H
              refine awr_ng rfl rfl rfl rfl (ca rfl rfl rfl (sl1In_c hr19) trivial rfl rfl rfl rfl) ?_
              refine wk ?_
              cases H
              exact weak_of ⟨rfl, rfl, rfl, rfl, trivial⟩ ⟨rfl, ⟨rfl, rfl⟩, trivial⟩
      refine wk ?_
      refine awc_cond rfl (fun h => ?_) (fun h => ?_)
      · have H := bt h H
        refine wk ?_
        cases H
        exact fin_ret (.cons (.tmp rfl) .nil) rfl rfl rfl
      · have H := bf h H
        refine wk ?_
        obtain ⟨r20, hr20, H⟩ := ob H
        refine awr_n rfl (ca rfl rfl rfl (sl1In_c hr20) trivial rfl rfl rfl rfl) ?_
        refine wk ?_
        obtain ⟨v21, Hj, H⟩ := ob H
        refine awr_join ⟨[(2, tB v21)], [], 0⟩ ?_ ?_
        · have H := Hj
          refine wk ?_
          refine g2 rfl rfl rfl (fun h => ?_) (fun h => ?_)
          · have H := bt h H
            refine wk ?_
            obtain ⟨r22, hr22, H⟩ := ob H
            refine awr_ng rfl rfl rfl rfl (ca rfl rfl rfl (sl1In_c hr22) trivial rfl rfl rfl rfl) ?_
            refine wk ?_
            refine g2 rfl rfl rfl (fun h => ?_) (fun h => ?_)
            · have H := bt h H
              refine wk ?_
              obtain ⟨r23, hr23, H⟩ := ob H
              refine awr_ng rfl rfl rfl rfl (ca rfl rfl rfl (sl1In_c hr23) trivial rfl rfl rfl rfl) ?_
              refine wk ?_
              cases H
              exact weak_of ⟨rfl, rfl, trivial⟩ trivial
            · have H := bf h H
              refine wk ?_
              cases H
              exact weak_of ⟨rfl, rfl, trivial⟩ trivial
          · have H := bf h H
            refine wk ?_
            cases H
            exact weak_of ⟨rfl, rfl, trivial⟩ trivial
        refine wk ?_
        cases H
        exact fin_ret (.cons (.tmp rfl) .nil) rfl rfl rfl
def sTotalReserved_L1 (a0 : TAccount) : (Int × Int) → Option (Step (Int × Int) (Int))
  | (v1, v2) => bif ltB v2 ((a0.Reservations.length : Nat) : Int) then (Option.bind (ix a0.Reservations v2) fun x5 => some (.next (WR (v1 + x5.Amount), WR (v2 + 1)))) else (some (.done v1))
def sTotalReserved (a0 : TAccount) : Option Int :=
  Option.bind (iter (sTotalReserved_L1 a0) FU (0, 0)) fun (v4 : Int) => some v4
theorem sTotalReserved_c {a0 : TAccount} {r : Int} (H : sTotalReserved a0 = some r) : Fn Tryz.prog 211 [.agg (eTAccount a0)] [.c (.d (.i .i64 r))] := by
  refine fn_in Tryz.func211 rfl (by kernel_rfl) Tryz.ntmps211 rfl rfl rfl ?_
  refine wk ?_
  obtain ⟨v4, Hj, H⟩ := ob H
  refine awc_jblk ⟨[(3, tI v4)], [], 0⟩ ?_ ?_
  · refine wk ?_
    refine awc_iter (fun (q : Int × Int) => ⟨[(1, .v (.c (.p 0 0))), (3, tI q.1), (4, tI q.2)], [(0, .var 179 [.d false (.i .i64 a0.Total), .d false (.i .i64 a0.Available), .d false (.i .i64 a0.Spent), .d false (.l (a0.Reservations.map eTReservation))])], 1⟩) Hj (weak_of ⟨rfl, rfl, rfl, rfl, rfl, rfl, trivial⟩ ⟨rfl, ⟨rfl, rfl⟩, trivial⟩) ?_
    rintro ⟨v1, v2⟩ o H
    try dsimp only
    refine wk ?_
    refine awc_cond rfl (fun h => ?_) (fun h => ?_)
    · have H := bt h H
      refine wk ?_
      obtain ⟨x5, hx5, H⟩ := ob H
      refine awr_n rfl (xdT (enc := eTReservation) hx5 (fun _ => rfl) rfl rfl rfl) ?_
      refine wk ?_
      cases H
      refine iq_n ?_
      exact weak_of ⟨rfl, rfl, rfl, rfl, rfl, rfl, trivial⟩ ⟨rfl, ⟨rfl, rfl⟩, trivial⟩
    · have H := bf h H
      refine wk ?_
      cases H
      refine iq_e (fun hq => ?_)
      cases hq
      refine wk ?_
      exact weak_of ⟨rfl, rfl, trivial⟩ trivial
  refine wk ?_
  cases H
  exact fin_ret (.cons (.tmp rfl) .nil) rfl rfl rfl
def sIsValidAccount_L1 (a0 : TAccount) : Int → Option (Step (Int) (Bool))
  | v1 => bif ltB v1 ((a0.Reservations.length : Nat) : Int) then (Option.bind (ix a0.Reservations v1) fun x2 => Option.bind (bif ltB x2.SessionID 0 then (some true) else (Option.bind (ix a0.Reservations v1) fun x4 => Option.bind (sl1In x4.Amount 1 100000) fun r5 => bif !r5 then (some true) else (bif ltB 0 v1 then (Option.bind (ix a0.Reservations (WR (v1 - 1))) fun x6 => Option.bind (ix a0.Reservations v1) fun x7 => some (leB x7.SessionID x6.SessionID)) else (some false)))) fun (v3 : Bool) => bif v3 then (dn (some false)) else (some (.next (WR (v1 + 1))))) else (dn (Option.bind (sl1In a0.Total 0 100000) fun r8 => Option.bind (bif r8 then (Option.bind (sl1In a0.Available 0 a0.Total) fun r10 => bif r10 then (Option.bind (sl1In a0.Spent 0 a0.Total) fun r11 => bif r11 then (bif leB ((a0.Reservations.length : Nat) : Int) 8 then (Option.bind (sTotalReserved a0) fun r12 => some (eqB (WR ((WR (a0.Available + a0.Spent)) + r12)) a0.Total)) else (some false)) else (some false)) else (some false)) else (some false)) fun (v9 : Bool) => some v9))
def sIsValidAccount (a0 : TAccount) : Option Bool :=
  iter (sIsValidAccount_L1 a0) FU 0
theorem sIsValidAccount_c {a0 : TAccount} {r : Bool} (H : sIsValidAccount a0 = some r) : Fn Tryz.prog 168 [.agg (eTAccount a0)] [.c (.d (.b r))] := by
  refine fn_in Tryz.func168 rfl (by kernel_rfl) Tryz.ntmps168 rfl rfl rfl ?_
  refine wkd ?_
  refine awc_iter (fun (q : Int) => ⟨[(1, .v (.c (.p 0 0))), (3, tI q)], [(0, .var 179 [.d false (.i .i64 a0.Total), .d false (.i .i64 a0.Available), .d false (.i .i64 a0.Spent), .d false (.l (a0.Reservations.map eTReservation))])], 1⟩) H (weak_of ⟨rfl, rfl, rfl, rfl, trivial⟩ ⟨rfl, ⟨rfl, rfl⟩, trivial⟩) ?_
  rintro v1 o H
  try dsimp only
  refine wkd ?_
  refine awc_cond rfl (fun h => ?_) (fun h => ?_)
  · have H := bt h H
    refine wkd ?_
    obtain ⟨x2, hx2, H⟩ := ob H
    refine dr_n rfl (xdT (enc := eTReservation) hx2 (fun _ => rfl) rfl rfl rfl) ?_
    refine wkd ?_
    obtain ⟨v3, Hj, H⟩ := ob H
    refine dr_join ⟨[(1, .v (.c (.p 0 0))), (3, tI v1), (47, tB v3)], [(0, .var 179 [.d false (.i .i64 a0.Total), .d false (.i .i64 a0.Available), .d false (.i .i64 a0.Spent), .d false (.l (a0.Reservations.map eTReservation))])], 1⟩ ?_ ?_
    · have H := Hj
      refine wkd ?_
      refine dg2 rfl rfl rfl (fun h => ?_) (fun h => ?_)
      · have H := bt h H
        refine wkd ?_
        cases H
        exact weak_of ⟨rfl, rfl, rfl, rfl, rfl, rfl, trivial⟩ ⟨rfl, ⟨rfl, rfl⟩, trivial⟩
      · have H := bf h H
        refine wkd ?_
        obtain ⟨x4, hx4, H⟩ := ob H
        refine dr_ng rfl rfl rfl rfl (xdT (enc := eTReservation) hx4 (fun _ => rfl) rfl rfl rfl) ?_
        refine wkd ?_
        obtain ⟨r5, hr5, H⟩ := ob H
        refine dr_ng rfl rfl rfl rfl (ca rfl rfl rfl (sl1In_c hr5) trivial rfl rfl rfl rfl) ?_
        refine wkd ?_
        refine dg2 rfl rfl rfl (fun h => ?_) (fun h => ?_)
        · have H := bt h H
          refine wkd ?_
          cases H
          exact weak_of ⟨rfl, rfl, rfl, rfl, rfl, rfl, trivial⟩ ⟨rfl, ⟨rfl, rfl⟩, trivial⟩
        · have H := bf h H
          refine wkd ?_
          refine dg2 rfl rfl rfl (fun h => ?_) (fun h => ?_)
          · have H := bt h H
            refine wkd ?_
            obtain ⟨x6, hx6, H⟩ := ob H
            refine dr_ng rfl rfl rfl rfl (xdT (enc := eTReservation) hx6 (fun _ => rfl) rfl rfl rfl) ?_
            refine wkd ?_
            obtain ⟨x7, hx7, H⟩ := ob H
            refine dr_ng rfl rfl rfl rfl (xdT (enc := eTReservation) hx7 (fun _ => rfl) rfl rfl rfl) ?_
            refine wkd ?_
            cases H
            exact weak_of ⟨rfl, rfl, rfl, rfl, rfl, rfl, trivial⟩ ⟨rfl, ⟨rfl, rfl⟩, trivial⟩
          · have H := bf h H
            refine wkd ?_
            cases H
            exact weak_of ⟨rfl, rfl, rfl, rfl, rfl, rfl, trivial⟩ ⟨rfl, ⟨rfl, rfl⟩, trivial⟩
    refine wkd ?_
    refine awc_cond rfl (fun h => ?_) (fun h => ?_)
    · have H := bt h H
      refine wkd ?_
      obtain ⟨r0, Hd, rfl⟩ := dnE H
      refine iq_r (fun hq => ?_)
      have H := Hd.trans (congrArg some hq)
      refine wkd ?_
      cases H
      exact fin_ret (.cons (.tmp rfl) .nil) rfl rfl rfl
    · have H := bf h H
      refine wkd ?_
      cases H
      refine iq_n ?_
      exact weak_of ⟨rfl, rfl, rfl, rfl, trivial⟩ ⟨rfl, ⟨rfl, rfl⟩, trivial⟩
  · have H := bf h H
    refine wkd ?_
    obtain ⟨r0, Hd, rfl⟩ := dnE H
    refine iq_e (fun hq => ?_)
    have H := Hd.trans (congrArg some hq)
    refine wkd ?_
    obtain ⟨r8, hr8, H⟩ := ob H
    refine dr_n rfl (ca rfl rfl rfl (sl1In_c hr8) trivial rfl rfl rfl rfl) ?_
    refine wkd ?_
    obtain ⟨v9, Hj, H⟩ := ob H
    refine dr_join ⟨[(2, tB v9)], [], 0⟩ ?_ ?_
    · have H := Hj
      refine wkd ?_
      refine dg2 rfl rfl rfl (fun h => ?_) (fun h => ?_)
      · have H := bt h H
        refine wkd ?_
        obtain ⟨r10, hr10, H⟩ := ob H
        refine dr_ng rfl rfl rfl rfl (ca rfl rfl rfl (sl1In_c hr10) trivial rfl rfl rfl rfl) ?_
        refine wkd ?_
        refine dg2 rfl rfl rfl (fun h => ?_) (fun h => ?_)
        · have H := bt h H
          refine wkd ?_
          obtain ⟨r11, hr11, H⟩ := ob H
          refine dr_ng rfl rfl rfl rfl (ca rfl rfl rfl (sl1In_c hr11) trivial rfl rfl rfl rfl) ?_
          refine wkd ?_
          refine dg2 rfl rfl rfl (fun h => ?_) (fun h => ?_)
          · have H := bt h H
            refine wkd ?_
            refine dg2 rfl rfl rfl (fun h => ?_) (fun h => ?_)
            · have H := bt h H
              refine wkd ?_
              obtain ⟨r12, hr12, H⟩ := ob H
              refine dr_ng rfl rfl rfl rfl (ca rfl rfl rfl (sTotalReserved_c hr12) trivial rfl rfl rfl rfl) ?_
              refine wkd ?_
              cases H
              exact weak_of ⟨rfl, rfl, trivial⟩ trivial
            · have H := bf h H
              refine wkd ?_
              cases H
              exact weak_of ⟨rfl, rfl, trivial⟩ trivial
          · have H := bf h H
            refine wkd ?_
            cases H
            exact weak_of ⟨rfl, rfl, trivial⟩ trivial
        · have H := bf h H
          refine wkd ?_
          cases H
          exact weak_of ⟨rfl, rfl, trivial⟩ trivial
      · have H := bf h H
        refine wkd ?_
        cases H
        exact weak_of ⟨rfl, rfl, trivial⟩ trivial
    refine wkd ?_
    cases H
    exact fin_ret (.cons (.tmp rfl) .nil) rfl rfl rfl
def sl16Find_L1 (a0 : TAccount) (a1 : Int) : Int → Option (Step (Int) (Int))
  | v1 => bif ltB v1 ((a0.Reservations.length : Nat) : Int) then (Option.bind (ix a0.Reservations v1) fun x2 => bif eqB x2.SessionID a1 then (dn (some v1)) else (some (.next (WR (v1 + 1))))) else (dn (some (-1)))
def sl16Find (a0 : TAccount) (a1 : Int) : Option Int :=
  iter (sl16Find_L1 a0 a1) FU 0
theorem sl16Find_c {a0 : TAccount} {a1 : Int} {r : Int} (H : sl16Find a0 a1 = some r) : Fn Tryz.prog 242 [.agg (eTAccount a0), aI a1] [.c (.d (.i .i64 r))] := by
  refine fn_in Tryz.func242 rfl (by kernel_rfl) Tryz.ntmps242 rfl rfl rfl ?_
  refine wk ?_
  refine awc_iter (fun (q : Int) => ⟨[(1, tI a1), (2, .v (.c (.p 0 0))), (5, tI q)], [(0, .var 179 [.d false (.i .i64 a0.Total), .d false (.i .i64 a0.Available), .d false (.i .i64 a0.Spent), .d false (.l (a0.Reservations.map eTReservation))])], 1⟩) H (weak_of ⟨rfl, rfl, rfl, rfl, rfl, rfl, trivial⟩ ⟨rfl, ⟨rfl, rfl⟩, trivial⟩) ?_
  rintro v1 o H
  try dsimp only
  refine wk ?_
  refine awc_cond rfl (fun h => ?_) (fun h => ?_)
  · have H := bt h H
    refine wk ?_
    obtain ⟨x2, hx2, H⟩ := ob H
    refine awr_n rfl (xdT (enc := eTReservation) hx2 (fun _ => rfl) rfl rfl rfl) ?_
    refine wk ?_
    refine awc_cond rfl (fun h => ?_) (fun h => ?_)
    · have H := bt h H
      refine wk ?_
      obtain ⟨r0, Hd, rfl⟩ := dnE H
      refine iq_r (fun hq => ?_)
      have H := Hd.trans (congrArg some hq)
      refine wk ?_
      cases H
      exact fin_ret (.cons (.tmp rfl) .nil) rfl rfl rfl
    · have H := bf h H
      refine wk ?_
      cases H
      refine iq_n ?_
      exact weak_of ⟨rfl, rfl, rfl, rfl, rfl, rfl, trivial⟩ ⟨rfl, ⟨rfl, rfl⟩, trivial⟩
  · have H := bf h H
    refine wk ?_
    obtain ⟨r0, Hd, rfl⟩ := dnE H
    refine iq_e (fun hq => ?_)
    have H := Hd.trans (congrArg some hq)
    refine wk ?_
    cases H
    exact fin_ret (.cons (.tmp rfl) .nil) rfl rfl rfl
def sReservedFor (a0 : TAccount) (a1 : Int) : Option Int :=
  Option.bind (sl16Find a0 a1) fun r1 => bif ltB r1 0 then (some 0) else (Option.bind (ix a0.Reservations r1) fun x2 => some x2.Amount)
theorem sReservedFor_c {a0 : TAccount} {a1 : Int} {r : Int} (H : sReservedFor a0 a1 = some r) : Fn Tryz.prog 212 [.agg (eTAccount a0), aI a1] [.c (.d (.i .i64 r))] := by
  refine fn_in Tryz.func212 rfl (by kernel_rfl) Tryz.ntmps212 rfl rfl rfl ?_
  refine wk ?_
  obtain ⟨r1, hr1, H⟩ := ob H
  refine awr_n rfl (ca rfl rfl rfl (sl16Find_c hr1) trivial rfl rfl rfl rfl) ?_
  refine wk ?_
  refine awc_cond rfl (fun h => ?_) (fun h => ?_)
  · have H := bt h H
    refine wk ?_
    cases H
    exact fin_ret (.cons (.tmp rfl) .nil) rfl rfl rfl
  · have H := bf h H
    refine wk ?_
    obtain ⟨x2, hx2, H⟩ := ob H
    refine awr_n rfl (xdT (enc := eTReservation) hx2 (fun _ => rfl) rfl rfl rfl) ?_
    refine wk ?_
    cases H
    exact fin_ret (.cons (.tmp rfl) .nil) rfl rfl rfl
def sQuotaMatchesAccount (a0 : TAccount) (a1 : TQuota) : Option Bool :=
  Option.bind (sIsValidAccount a0) fun r1 => Option.bind (bif r1 then (Option.bind (sIsValidQuota a1) fun r3 => bif r3 then (Option.bind (sReservedFor a0 a1.SessionID) fun r4 => some (eqB r4 a1.Granted)) else (some false)) else (some false)) fun (v2 : Bool) => some v2
theorem sQuotaMatchesAccount_c {a0 : TAccount} {a1 : TQuota} {r : Bool} (H : sQuotaMatchesAccount a0 a1 = some r) : Fn Tryz.prog 169 [.agg (eTAccount a0), .agg (eTQuota a1)] [.c (.d (.b r))] := by
  refine fn_in Tryz.func169 rfl (by kernel_rfl) Tryz.ntmps169 rfl rfl rfl ?_
  refine wkd ?_
  obtain ⟨r1, hr1, H⟩ := ob H
  refine dr_n rfl (ca rfl rfl rfl (sIsValidAccount_c hr1) trivial rfl rfl rfl rfl) ?_
  refine wkd ?_
  obtain ⟨v2, Hj, H⟩ := ob H
  refine dr_join ⟨[(4, tB v2)], [], 0⟩ ?_ ?_
  · have H := Hj
    refine wkd ?_
    refine dg2 rfl rfl rfl (fun h => ?_) (fun h => ?_)
    · have H := bt h H
      refine wkd ?_
      obtain ⟨r3, hr3, H⟩ := ob H
      refine dr_ng rfl rfl rfl rfl (ca rfl rfl rfl (sIsValidQuota_c hr3) trivial rfl rfl rfl rfl) ?_
      refine wkd ?_
      refine dg2 rfl rfl rfl (fun h => ?_) (fun h => ?_)
      · have H := bt h H
        refine wkd ?_
        obtain ⟨r4, hr4, H⟩ := ob H
        refine dr_ng rfl rfl rfl rfl (ca rfl rfl rfl (sReservedFor_c hr4) trivial rfl rfl rfl rfl) ?_
        refine wkd ?_
        cases H
        exact weak_of ⟨rfl, rfl, trivial⟩ trivial
      · have H := bf h H
        refine wkd ?_
        cases H
        exact weak_of ⟨rfl, rfl, trivial⟩ trivial
    · have H := bf h H
      refine wkd ?_
      cases H
      exact weak_of ⟨rfl, rfl, trivial⟩ trivial
  refine wkd ?_
  cases H
  exact fin_ret (.cons (.tmp rfl) .nil) rfl rfl rfl
def sl32Member (a0 : TNetwork) (a1 : Int) : Option Bool :=
  Option.bind (ix a0.Devices a1) fun x1 => Option.bind (ix a0.Sessions a1) fun x2 => Option.bind (sIsValidDevice x1) fun r3 => Option.bind (bif !r3 then (some true) else (Option.bind (sIsValidSession x2) fun r5 => bif !r5 then (some true) else (Option.bind (ix a0.Accounts a1) fun x6 => Option.bind (sIsValidAccount x6) fun r7 => bif !r7 then (some true) else (bif !(eqB x1.Card.ID.Network x2.Record.ID.Network && (eqB x1.Card.ID.Number x2.Record.ID.Number && true)) then (some true) else (some (!eqB x1.Card.Key x2.Record.Key)))))) fun (v4 : Bool) => bif v4 then (some false) else (Option.bind (bif ltB x1.Cell ((a0.Map.Cells.length : Nat) : Int) then (bif ltB x2.Cell ((a0.Map.Cells.length : Nat) : Int) then (bif eqB x2.Usage.SessionID a1 then (Option.bind (ix a0.Accounts a1) fun x9 => Option.bind (sQuotaMatchesAccount x9 x2.Usage) fun r10 => some r10) else (some false)) else (some false)) else (some false)) fun (v8 : Bool) => some v8)
theorem sl32Member_c {a0 : TNetwork} {a1 : Int} {r : Bool} (H : sl32Member a0 a1 = some r) : Fn Tryz.prog 105 [.agg (eTNetwork a0), aI a1] [.c (.d (.b r))] := by
  refine fn_in Tryz.func105 rfl (by kernel_rfl) Tryz.ntmps105 rfl rfl rfl ?_
  refine wkd ?_
  obtain ⟨x1, hx1, H⟩ := ob H
  refine awr_n rfl (xdT (enc := eTDevice) hx1 (fun _ => rfl) rfl rfl rfl) ?_
  refine wkd ?_
  obtain ⟨x2, hx2, H⟩ := ob H
  refine awr_n rfl (xdT (enc := eTSession) hx2 (fun _ => rfl) rfl rfl rfl) ?_
  refine wkd ?_
  obtain ⟨r3, hr3, H⟩ := ob H
  refine awr_n rfl (ca rfl rfl rfl (sIsValidDevice_c hr3) trivial rfl rfl rfl rfl) ?_
  refine wkd ?_
  obtain ⟨v4, Hj, H⟩ := ob H
  refine awr_join ⟨[(1, tI a1), (2, .v (.c (.p 0 0))), (5, .v (.c (.p 1 0))), (6, .v (.c (.p 2 0))), (51, tB v4)], [(0, .var 47 [.d false (.l (a0.Map.Cells.map eTCell)), .d false (.l (a0.Devices.map eTDevice)), .d false (.l (a0.Sessions.map eTSession)), .d false (.l (a0.Accounts.map eTAccount)), .d false (.l (a0.Flights.map eTFlight)), .d false (.i .i64 a0.DownCells), .d false (.i .i64 a0.Core.Size), .d false (.i .i64 a0.Core.UpMask), .d false (.i .i64 a0.Now), .d false (.i .i64 a0.Lost)]), (1, .var 174 [.d false (.i .i64 x1.Card.ID.Network), .d false (.i .i64 x1.Card.ID.Number), .d false (.i .i64 x1.Card.Key), .d false (.i .i64 x1.Card.LastSeq), .d false (.i .i64 x1.State), .d false (.i .i64 x1.Cell), .d false (.i .i64 x1.Generation), .d false (.i .i64 x1.RootKey), .d false (.i .i64 x1.Epoch), .d false (.b x1.PathConfirmed), .d false (.i .i64 x1.Wait), .d false (.i .i64 x1.Receiver.Next), .d false (.l (x1.Receiver.Pending.map eTNumberedPacket)), .d false (.l (x1.Receiver.Delivered.map eTPayload))]), (2, .var 125 [.d false (.i .i64 x2.Record.ID.Network), .d false (.i .i64 x2.Record.ID.Number), .d false (.i .i64 x2.Record.Key), .d false (.i .i64 x2.Record.Seq), .d false (.i .i64 x2.Plan.RateLimit), .d false (.i .i64 x2.Plan.BestClass), .d false (.i .i64 x2.Plan.GrantSize), .d false (.l (x2.Plan.RoamingNetworks.map eI)), .d false (.i .i64 x2.State), .d false (.i .i64 x2.Pending.Rand), .d false (.i .i64 x2.Pending.Autn), .d false (.i .i64 x2.Pending.MAC), .d false (.i .i64 x2.Pending.Res), .d false (.i .i64 x2.Pending.Key), .d false (.i .i64 x2.PendingSeq), .d false (.i .i64 x2.Generation), .d false (.i .i64 x2.RootKey), .d false (.i .i64 x2.Epoch), .d false (.i .i64 x2.Cell), .d false (.i .i64 x2.Quiet), .d false (.i .i64 x2.Page.Area), .d false (.i .i64 x2.Page.Attempt), .d false (.i .i64 x2.Page.Wait), .d false (.l (x2.Submitted.map eTPayload)), .d false (.i .i64 x2.Window.Next), .d false (.l (x2.Window.Unacked.map eTNumberedPacket)), .d false (.i .i64 x2.Retry), .d false (.i .i64 x2.Usage.SessionID), .d false (.i .i64 x2.Usage.Granted), .d false (.i .i64 x2.Usage.Used)])], 3⟩ ?_ ?_
  · have H := Hj
    refine wkd ?_
    refine g2 rfl rfl rfl (fun h => ?_) (fun h => ?_)
    · have H := bt h H
      refine wkd ?_
      cases H
      exact weak_of ⟨rfl, rfl, rfl, rfl, rfl, rfl, rfl, rfl, rfl, rfl, trivial⟩ ⟨rfl, ⟨rfl, rfl⟩, rfl, ⟨rfl, rfl⟩, rfl, ⟨rfl, rfl⟩, trivial⟩
    · have H := bf h H
      refine wkd ?_
      obtain ⟨r5, hr5, H⟩ := ob H
      refine awr_ng rfl rfl rfl rfl (ca rfl rfl rfl (sIsValidSession_c hr5) trivial rfl rfl rfl rfl) ?_
      refine wkd ?_
      refine g2 rfl rfl rfl (fun h => ?_) (fun h => ?_)
      · have H := bt h H
        refine wkd ?_
        cases H
        exact weak_of ⟨rfl, rfl, rfl, rfl, rfl, rfl, rfl, rfl, rfl, rfl, trivial⟩ ⟨rfl, ⟨rfl, rfl⟩, rfl, ⟨rfl, rfl⟩, rfl, ⟨rfl, rfl⟩, trivial⟩
      · have H := bf h H
        refine wkd ?_
        obtain ⟨x6, hx6, H⟩ := ob H
        refine awr_ng rfl rfl rfl rfl (xdT (enc := eTAccount) hx6 (fun _ => rfl) rfl rfl rfl) ?_
        refine wkd ?_
        obtain ⟨r7, hr7, H⟩ := ob H
        refine awr_ng rfl rfl rfl rfl (ca rfl rfl rfl (sIsValidAccount_c hr7) trivial rfl rfl rfl rfl) ?_
        refine wkd ?_
        refine g2 rfl rfl rfl (fun h => ?_) (fun h => ?_)
        · have H := bt h H
          refine wkd ?_
          cases H
          exact weak_of ⟨rfl, rfl, rfl, rfl, rfl, rfl, rfl, rfl, rfl, rfl, trivial⟩ ⟨rfl, ⟨rfl, rfl⟩, rfl, ⟨rfl, rfl⟩, rfl, ⟨rfl, rfl⟩, trivial⟩
        · have H := bf h H
          refine wkd ?_
          refine g2 rfl rfl rfl (fun h => ?_) (fun h => ?_)
          · have H := bt h H
            refine wkd ?_
            cases H
            exact weak_of ⟨rfl, rfl, rfl, rfl, rfl, rfl, rfl, rfl, rfl, rfl, trivial⟩ ⟨rfl, ⟨rfl, rfl⟩, rfl, ⟨rfl, rfl⟩, rfl, ⟨rfl, rfl⟩, trivial⟩
          · have H := bf h H
            refine wkd ?_
            cases H
            exact weak_of ⟨rfl, rfl, rfl, rfl, rfl, rfl, rfl, rfl, rfl, rfl, trivial⟩ ⟨rfl, ⟨rfl, rfl⟩, rfl, ⟨rfl, rfl⟩, rfl, ⟨rfl, rfl⟩, trivial⟩
  refine wkd ?_
  refine awc_cond rfl (fun h => ?_) (fun h => ?_)
  · have H := bt h H
    refine wkd ?_
    cases H
    exact fin_ret (.cons (.tmp rfl) .nil) rfl rfl rfl
  · have H := bf h H
    refine wkd ?_
    obtain ⟨v8, Hj, H⟩ := ob H
    refine dr_join ⟨[(4, tB v8)], [], 0⟩ ?_ ?_
    · have H := Hj
      refine wkd ?_
      refine dg2 rfl rfl rfl (fun h => ?_) (fun h => ?_)
      · have H := bt h H
        refine wkd ?_
        refine dg2 rfl rfl rfl (fun h => ?_) (fun h => ?_)
        · have H := bt h H
          refine wkd ?_
          refine dg2 rfl rfl rfl (fun h => ?_) (fun h => ?_)
          · have H := bt h H
            refine wkd ?_
            obtain ⟨x9, hx9, H⟩ := ob H
            refine dr_ng rfl rfl rfl rfl (xdT (enc := eTAccount) hx9 (fun _ => rfl) rfl rfl rfl) ?_
            refine wkd ?_
            obtain ⟨r10, hr10, H⟩ := ob H
            refine dr_ng rfl rfl rfl rfl (ca rfl rfl rfl (sQuotaMatchesAccount_c hr10) trivial rfl rfl rfl rfl) ?_
            refine wkd ?_
            cases H
            exact weak_of ⟨rfl, rfl, trivial⟩ trivial
          · have H := bf h H
            refine wkd ?_
            cases H
            exact weak_of ⟨rfl, rfl, trivial⟩ trivial
        · have H := bf h H
          refine wkd ?_
          cases H
          exact weak_of ⟨rfl, rfl, trivial⟩ trivial
      · have H := bf h H
        refine wkd ?_
        cases H
        exact weak_of ⟨rfl, rfl, trivial⟩ trivial
    refine wkd ?_
    cases H
    exact fin_ret (.cons (.tmp rfl) .nil) rfl rfl rfl
def sIsValidNetwork_L2 (a0 : TNetwork) : Int → Option (Step (Int) (Bool))
  | v6 => bif ltB v6 ((a0.Flights.length : Nat) : Int) then (Option.bind (ix a0.Flights v6) fun x7 => Option.bind (sl1In x7.Device 0 (WR (((a0.Devices.length : Nat) : Int) - 1))) fun r8 => Option.bind (bif !r8 then (some true) else (Option.bind (ix a0.Flights v6) fun x10 => Option.bind (sl1In x10.Cell 0 (WR (((a0.Map.Cells.length : Nat) : Int) - 1))) fun r11 => some (!r11))) fun (v9 : Bool) => bif v9 then (dn (some false)) else (some (.next (WR (v6 + 1))))) else (dn (bif leB 0 ((a0.Map.Cells.length : Nat) : Int) then (Option.bind (sl1In a0.DownCells 0 (WR ((bShl .i64 1 ((a0.Map.Cells.length : Nat) : Int)) - 1))) fun r12 => Option.bind (bif r12 then (Option.bind (sl1In a0.Now 0 100000) fun r14 => bif r14 then (some (leB 0 a0.Lost)) else (some false)) else (some false)) fun (v13 : Bool) => some v13) else none))
def sIsValidNetwork_L1 (a0 : TNetwork) : Int → Option (Step (Int) (Bool))
  | v4 => bif ltB v4 ((a0.Devices.length : Nat) : Int) then (Option.bind (sl32Member a0 v4) fun r5 => bif !r5 then (dn (some false)) else (some (.next (WR (v4 + 1))))) else (dn (iter (sIsValidNetwork_L2 a0) FU 0))
def sIsValidNetwork (a0 : TNetwork) : Option Bool :=
  Option.bind (sIsValidMap a0.Map) fun r1 => Option.bind (bif !r1 then (some true) else (Option.bind (sIsValidPool a0.Core) fun r3 => bif !r3 then (some true) else (bif eqB a0.Core.UpMask 0 then (some true) else (bif ltB 4 ((a0.Devices.length : Nat) : Int) then (some true) else (bif !eqB ((a0.Sessions.length : Nat) : Int) ((a0.Devices.length : Nat) : Int) then (some true) else (bif !eqB ((a0.Accounts.length : Nat) : Int) ((a0.Devices.length : Nat) : Int) then (some true) else (some (ltB 200 ((a0.Flights.length : Nat) : Int))))))))) fun (v2 : Bool) => bif v2 then (some false) else (iter (sIsValidNetwork_L1 a0) FU 0)
theorem sIsValidNetwork_c {a0 : TNetwork} {r : Bool} (H : sIsValidNetwork a0 = some r) : Fn Tryz.prog 60 [.agg (eTNetwork a0)] [.c (.d (.b r))] := by
  refine fn_in Tryz.func60 rfl (by kernel_rfl) Tryz.ntmps60 rfl rfl rfl ?_
  refine wkd ?_
  obtain ⟨r1, hr1, H⟩ := ob H
  refine awr_n rfl (ca rfl rfl rfl (sIsValidMap_c hr1) trivial rfl rfl rfl rfl) ?_
  refine wkd ?_
  obtain ⟨v2, Hj, H⟩ := ob H
  refine awr_join ⟨[(1, .v (.c (.p 0 0))), (50, tB v2)], [(0, .var 47 [.d false (.l (a0.Map.Cells.map eTCell)), .d false (.l (a0.Devices.map eTDevice)), .d false (.l (a0.Sessions.map eTSession)), .d false (.l (a0.Accounts.map eTAccount)), .d false (.l (a0.Flights.map eTFlight)), .d false (.i .i64 a0.DownCells), .d false (.i .i64 a0.Core.Size), .d false (.i .i64 a0.Core.UpMask), .d false (.i .i64 a0.Now), .d false (.i .i64 a0.Lost)])], 1⟩ ?_ ?_
  · have H := Hj
    refine wkd ?_
    refine g2 rfl rfl rfl (fun h => ?_) (fun h => ?_)
    · have H := bt h H
      refine wkd ?_
      cases H
      exact weak_of ⟨rfl, rfl, rfl, rfl, trivial⟩ ⟨rfl, ⟨rfl, rfl⟩, trivial⟩
    · have H := bf h H
      refine wkd ?_
      obtain ⟨r3, hr3, H⟩ := ob H
      refine awr_ng rfl rfl rfl rfl (ca rfl rfl rfl (sIsValidPool_c hr3) trivial rfl rfl rfl rfl) ?_
      refine wkd ?_
      refine g2 rfl rfl rfl (fun h => ?_) (fun h => ?_)
      · have H := bt h H
        refine wkd ?_
        cases H
        exact weak_of ⟨rfl, rfl, rfl, rfl, trivial⟩ ⟨rfl, ⟨rfl, rfl⟩, trivial⟩
      · have H := bf h H
        refine wkd ?_
        refine g2 rfl rfl rfl (fun h => ?_) (fun h => ?_)
        · have H := bt h H
          refine wkd ?_
          cases H
          exact weak_of ⟨rfl, rfl, rfl, rfl, trivial⟩ ⟨rfl, ⟨rfl, rfl⟩, trivial⟩
        · have H := bf h H
          refine wkd ?_
          refine g2 rfl rfl rfl (fun h => ?_) (fun h => ?_)
          · have H := bt h H
            refine wkd ?_
            cases H
            exact weak_of ⟨rfl, rfl, rfl, rfl, trivial⟩ ⟨rfl, ⟨rfl, rfl⟩, trivial⟩
          · have H := bf h H
            refine wkd ?_
            refine g2 rfl rfl rfl (fun h => ?_) (fun h => ?_)
            · have H := bt h H
              refine wkd ?_
              cases H
              exact weak_of ⟨rfl, rfl, rfl, rfl, trivial⟩ ⟨rfl, ⟨rfl, rfl⟩, trivial⟩
            · have H := bf h H
              refine wkd ?_
              refine g2 rfl rfl rfl (fun h => ?_) (fun h => ?_)
              · have H := bt h H
                refine wkd ?_
                cases H
                exact weak_of ⟨rfl, rfl, rfl, rfl, trivial⟩ ⟨rfl, ⟨rfl, rfl⟩, trivial⟩
              · have H := bf h H
                refine wkd ?_
                cases H
                exact weak_of ⟨rfl, rfl, rfl, rfl, trivial⟩ ⟨rfl, ⟨rfl, rfl⟩, trivial⟩
  refine wkd ?_
  refine awc_cond rfl (fun h => ?_) (fun h => ?_)
  · have H := bt h H
    refine wkd ?_
    cases H
    exact fin_ret (.cons (.tmp rfl) .nil) rfl rfl rfl
  · have H := bf h H
    refine wkd ?_
    refine awc_iter (fun (q : Int) => ⟨[(1, .v (.c (.p 0 0))), (3, tI q)], [(0, .var 47 [.d false (.l (a0.Map.Cells.map eTCell)), .d false (.l (a0.Devices.map eTDevice)), .d false (.l (a0.Sessions.map eTSession)), .d false (.l (a0.Accounts.map eTAccount)), .d false (.l (a0.Flights.map eTFlight)), .d false (.i .i64 a0.DownCells), .d false (.i .i64 a0.Core.Size), .d false (.i .i64 a0.Core.UpMask), .d false (.i .i64 a0.Now), .d false (.i .i64 a0.Lost)])], 1⟩) H (weak_of ⟨rfl, rfl, rfl, rfl, trivial⟩ ⟨rfl, ⟨rfl, rfl⟩, trivial⟩) ?_
    rintro v4 o H
    try dsimp only
    refine wkd ?_
    refine awc_cond rfl (fun h => ?_) (fun h => ?_)
    · have H := bt h H
      refine wkd ?_
      obtain ⟨r5, hr5, H⟩ := ob H
      refine awr_n rfl (ca rfl rfl rfl (sl32Member_c hr5) trivial rfl rfl rfl rfl) ?_
      refine wkd ?_
      refine awc_cond rfl (fun h => ?_) (fun h => ?_)
      · have H := bt h H
        refine wkd ?_
        obtain ⟨r0, Hd, rfl⟩ := dnE H
        refine iq_r (fun hq => ?_)
        have H := Hd.trans (congrArg some hq)
        refine wkd ?_
        cases H
        exact fin_ret (.cons (.tmp rfl) .nil) rfl rfl rfl
      · have H := bf h H
        refine wkd ?_
        cases H
        refine iq_n ?_
        exact weak_of ⟨rfl, rfl, rfl, rfl, trivial⟩ ⟨rfl, ⟨rfl, rfl⟩, trivial⟩
    · have H := bf h H
      refine wkd ?_
      obtain ⟨r0, Hd, rfl⟩ := dnE H
      refine iq_e (fun hq => ?_)
      have H := Hd.trans (congrArg some hq)
      refine wkd ?_
      refine awc_iter (fun (q : Int) => ⟨[(1, .v (.c (.p 0 0))), (4, tI q)], [(0, .var 47 [.d false (.l (a0.Map.Cells.map eTCell)), .d false (.l (a0.Devices.map eTDevice)), .d false (.l (a0.Sessions.map eTSession)), .d false (.l (a0.Accounts.map eTAccount)), .d false (.l (a0.Flights.map eTFlight)), .d false (.i .i64 a0.DownCells), .d false (.i .i64 a0.Core.Size), .d false (.i .i64 a0.Core.UpMask), .d false (.i .i64 a0.Now), .d false (.i .i64 a0.Lost)])], 1⟩) H (weak_of ⟨rfl, rfl, rfl, rfl, trivial⟩ ⟨rfl, ⟨rfl, rfl⟩, trivial⟩) ?_
      rintro v6 o H
      try dsimp only
      refine wkd ?_
      refine awc_cond rfl (fun h => ?_) (fun h => ?_)
      · have H := bt h H
        refine wkd ?_
        obtain ⟨x7, hx7, H⟩ := ob H
        refine dr_n rfl (xdT (enc := eTFlight) hx7 (fun _ => rfl) rfl rfl rfl) ?_
        refine wkd ?_
        obtain ⟨r8, hr8, H⟩ := ob H
        refine dr_n rfl (ca rfl rfl rfl (sl1In_c hr8) trivial rfl rfl rfl rfl) ?_
        refine wkd ?_
        obtain ⟨v9, Hj, H⟩ := ob H
        refine dr_join ⟨[(1, .v (.c (.p 0 0))), (4, tI v6), (95, tB v9)], [(0, .var 47 [.d false (.l (a0.Map.Cells.map eTCell)), .d false (.l (a0.Devices.map eTDevice)), .d false (.l (a0.Sessions.map eTSession)), .d false (.l (a0.Accounts.map eTAccount)), .d false (.l (a0.Flights.map eTFlight)), .d false (.i .i64 a0.DownCells), .d false (.i .i64 a0.Core.Size), .d false (.i .i64 a0.Core.UpMask), .d false (.i .i64 a0.Now), .d false (.i .i64 a0.Lost)])], 1⟩ ?_ ?_
        · have H := Hj
          refine wkd ?_
          refine dg2 rfl rfl rfl (fun h => ?_) (fun h => ?_)
          · have H := bt h H
            refine wkd ?_
            cases H
            exact weak_of ⟨rfl, rfl, rfl, rfl, rfl, rfl, trivial⟩ ⟨rfl, ⟨rfl, rfl⟩, trivial⟩
          · have H := bf h H
            refine wkd ?_
            obtain ⟨x10, hx10, H⟩ := ob H
            refine dr_ng rfl rfl rfl rfl (xdT (enc := eTFlight) hx10 (fun _ => rfl) rfl rfl rfl) ?_
            refine wkd ?_
            obtain ⟨r11, hr11, H⟩ := ob H
            refine dr_ng rfl rfl rfl rfl (ca rfl rfl rfl (sl1In_c hr11) trivial rfl rfl rfl rfl) ?_
            refine wkd ?_
            cases H
            exact weak_of ⟨rfl, rfl, rfl, rfl, rfl, rfl, trivial⟩ ⟨rfl, ⟨rfl, rfl⟩, trivial⟩
        refine wkd ?_
        refine awc_cond rfl (fun h => ?_) (fun h => ?_)
        · have H := bt h H
          refine wkd ?_
          obtain ⟨r0, Hd, rfl⟩ := dnE H
          refine iq_r (fun hq => ?_)
          have H := Hd.trans (congrArg some hq)
          refine wkd ?_
          cases H
          exact fin_ret (.cons (.tmp rfl) .nil) rfl rfl rfl
        · have H := bf h H
          refine wkd ?_
          cases H
          refine iq_n ?_
          exact weak_of ⟨rfl, rfl, rfl, rfl, trivial⟩ ⟨rfl, ⟨rfl, rfl⟩, trivial⟩
      · have H := bf h H
        refine wkd ?_
        obtain ⟨r0, Hd, rfl⟩ := dnE H
        refine iq_e (fun hq => ?_)
        have H := Hd.trans (congrArg some hq)
        refine wkd ?_
        obtain ⟨h, H⟩ := rq H
        refine dr_n rfl (ishT h rfl rfl rfl rfl) ?_
        refine wkd ?_
        obtain ⟨r12, hr12, H⟩ := ob H
        refine dr_n rfl (ca rfl rfl rfl (sl1In_c hr12) trivial rfl rfl rfl rfl) ?_
        refine wkd ?_
        obtain ⟨v13, Hj, H⟩ := ob H
        refine dr_join ⟨[(2, tB v13)], [], 0⟩ ?_ ?_
        · have H := Hj
          refine wkd ?_
          refine dg2 rfl rfl rfl (fun h => ?_) (fun h => ?_)
          · have H := bt h H
            refine wkd ?_
            obtain ⟨r14, hr14, H⟩ := ob H
            refine dr_ng rfl rfl rfl rfl (ca rfl rfl rfl (sl1In_c hr14) trivial rfl rfl rfl rfl) ?_
            refine wkd ?_
            refine dg2 rfl rfl rfl (fun h => ?_) (fun h => ?_)
            · have H := bt h H
              refine wkd ?_
              cases H
              exact weak_of ⟨rfl, rfl, trivial⟩ trivial
            · have H := bf h H
              refine wkd ?_
              cases H
              exact weak_of ⟨rfl, rfl, trivial⟩ trivial
          · have H := bf h H
            refine wkd ?_
            cases H
            exact weak_of ⟨rfl, rfl, trivial⟩ trivial
        refine wkd ?_
        cases H
        exact fin_ret (.cons (.tmp rfl) .nil) rfl rfl rfl
def sAudit_L1 (a0 : TNetwork) : Int → Option (Step (Int) (Bool))
  | v1 => bif ltB v1 ((a0.Devices.length : Nat) : Int) then (Option.bind (sDeliveredInOrder a0 v1) fun r2 => Option.bind (bif !r2 then (some true) else (Option.bind (sChargedExactlyOnce a0 v1) fun r4 => bif !r4 then (some true) else (Option.bind (sAcknowledgedWereDelivered a0 v1) fun r5 => some (!r5)))) fun (v3 : Bool) => bif v3 then (dn (some false)) else (some (.next (WR (v1 + 1))))) else (dn (Option.bind (sIsValidNetwork a0) fun r6 => some r6))
def sAudit (a0 : TNetwork) : Option Bool :=
  iter (sAudit_L1 a0) FU 0
theorem sAudit_c {a0 : TNetwork} {r : Bool} (H : sAudit a0 = some r) : Fn Tryz.prog 24 [.agg (eTNetwork a0)] [.c (.d (.b r))] := by
  refine fn_in Tryz.func24 rfl (by kernel_rfl) Tryz.ntmps24 rfl rfl rfl ?_
  refine wk ?_
  refine awc_iter (fun (q : Int) => ⟨[(1, .v (.c (.p 0 0))), (3, tI q)], [(0, .var 47 [.d false (.l (a0.Map.Cells.map eTCell)), .d false (.l (a0.Devices.map eTDevice)), .d false (.l (a0.Sessions.map eTSession)), .d false (.l (a0.Accounts.map eTAccount)), .d false (.l (a0.Flights.map eTFlight)), .d false (.i .i64 a0.DownCells), .d false (.i .i64 a0.Core.Size), .d false (.i .i64 a0.Core.UpMask), .d false (.i .i64 a0.Now), .d false (.i .i64 a0.Lost)])], 1⟩) H (weak_of ⟨rfl, rfl, rfl, rfl, trivial⟩ ⟨rfl, ⟨rfl, rfl⟩, trivial⟩) ?_
  rintro v1 o H
  try dsimp only
  refine wk ?_
  refine awc_cond rfl (fun h => ?_) (fun h => ?_)
  · have H := bt h H
    refine wk ?_
    obtain ⟨r2, hr2, H⟩ := ob H
    refine awr_n rfl (ca rfl rfl rfl (sDeliveredInOrder_c hr2) trivial rfl rfl rfl rfl) ?_
    refine wk ?_
    obtain ⟨v3, Hj, H⟩ := ob H
    refine awr_join ⟨[(1, .v (.c (.p 0 0))), (3, tI v1), (26, tB v3)], [(0, .var 47 [.d false (.l (a0.Map.Cells.map eTCell)), .d false (.l (a0.Devices.map eTDevice)), .d false (.l (a0.Sessions.map eTSession)), .d false (.l (a0.Accounts.map eTAccount)), .d false (.l (a0.Flights.map eTFlight)), .d false (.i .i64 a0.DownCells), .d false (.i .i64 a0.Core.Size), .d false (.i .i64 a0.Core.UpMask), .d false (.i .i64 a0.Now), .d false (.i .i64 a0.Lost)])], 1⟩ ?_ ?_
    · have H := Hj
      refine wk ?_
      refine g2 rfl rfl rfl (fun h => ?_) (fun h => ?_)
      · have H := bt h H
        refine wk ?_
        cases H
        exact weak_of ⟨rfl, rfl, rfl, rfl, rfl, rfl, trivial⟩ ⟨rfl, ⟨rfl, rfl⟩, trivial⟩
      · have H := bf h H
        refine wk ?_
        obtain ⟨r4, hr4, H⟩ := ob H
        refine awr_ng rfl rfl rfl rfl (ca rfl rfl rfl (sChargedExactlyOnce_c hr4) trivial rfl rfl rfl rfl) ?_
        refine wk ?_
        refine g2 rfl rfl rfl (fun h => ?_) (fun h => ?_)
        · have H := bt h H
          refine wk ?_
          cases H
          exact weak_of ⟨rfl, rfl, rfl, rfl, rfl, rfl, trivial⟩ ⟨rfl, ⟨rfl, rfl⟩, trivial⟩
        · have H := bf h H
          refine wk ?_
          obtain ⟨r5, hr5, H⟩ := ob H
          refine awr_ng rfl rfl rfl rfl (ca rfl rfl rfl (sAcknowledgedWereDelivered_c hr5) trivial rfl rfl rfl rfl) ?_
          refine wk ?_
          cases H
          exact weak_of ⟨rfl, rfl, rfl, rfl, rfl, rfl, trivial⟩ ⟨rfl, ⟨rfl, rfl⟩, trivial⟩
    refine wk ?_
    refine awc_cond rfl (fun h => ?_) (fun h => ?_)
    · have H := bt h H
      refine wk ?_
      obtain ⟨r0, Hd, rfl⟩ := dnE H
      refine iq_r (fun hq => ?_)
      have H := Hd.trans (congrArg some hq)
      refine wk ?_
      cases H
      exact fin_ret (.cons (.tmp rfl) .nil) rfl rfl rfl
    · have H := bf h H
      refine wk ?_
      cases H
      refine iq_n ?_
      exact weak_of ⟨rfl, rfl, rfl, rfl, trivial⟩ ⟨rfl, ⟨rfl, rfl⟩, trivial⟩
  · have H := bf h H
    refine wk ?_
    obtain ⟨r0, Hd, rfl⟩ := dnE H
    refine iq_e (fun hq => ?_)
    have H := Hd.trans (congrArg some hq)
    refine wk ?_
    obtain ⟨r6, hr6, H⟩ := ob H
    refine awr_n rfl (ca rfl rfl rfl (sIsValidNetwork_c hr6) trivial rfl rfl rfl rfl) ?_
    refine wk ?_
    cases H
    exact fin_ret (.cons (.tmp rfl) .nil) rfl rfl rfl
end Go.AM
