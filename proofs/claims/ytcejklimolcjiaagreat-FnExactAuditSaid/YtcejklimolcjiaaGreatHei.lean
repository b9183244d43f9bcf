/-
  Own text: a part of the abstract machine for this seat (Hei). No statement is proved here.
-/
import Derived.Test.YtcejklimolcjiaaGreatHeg
set_option linter.unusedVariables false
namespace Go.AM
open Go.Proofs
attribute [local irreducible] AWN NS AWO AWR AWC DR Weak iterQ
set_option maxRecDepth 100000
set_option maxHeartbeats 4000000
def iEqualInts (a0 : List Int) (a1 : List Int) : Option Bool :=
  Option.bind (gslices_Equal_int_int a0 a1) fun r1 => some r1
theorem iEqualInts_c {a0 : List Int} {a1 : List Int} {r : Bool} (H : iEqualInts a0 a1 = some r) : Fn Tryz.prog 188 [aL (a0.map eI), aL (a1.map eI)] [.c (.d (.b r))] := by
  refine fn_in Tryz.func188 rfl (by kernel_rfl) Tryz.ntmps188 rfl rfl rfl ?_
  refine wk ?_
  obtain ⟨r1, hr1, H⟩ := ob H
  refine awr_n rfl (ca rfl rfl rfl (gslices_Equal_int_int_c hr1) trivial rfl rfl rfl rfl) ?_
  refine wk ?_
  cases H
  exact fin_ret (.cons (.tmp rfl) .nil) rfl rfl rfl
def iIsPrefixPath (a0 : TKeyPath) (a1 : TKeyPath) : Option Bool :=
  Option.bind (bif leB ((a0.Steps.length : Nat) : Int) ((a1.Steps.length : Nat) : Int) then (bif slOk a1.Steps 0 ((a0.Steps.length : Nat) : Int) then (Option.bind (iEqualInts a0.Steps (a1.Steps.take (((a0.Steps.length : Nat) : Int)).toNat)) fun r2 => some r2) else none) else (some false)) fun (v1 : Bool) => some v1
theorem iIsPrefixPath_c {a0 : TKeyPath} {a1 : TKeyPath} {r : Bool} (H : iIsPrefixPath a0 a1 = some r) : Fn Tryz.prog 139 [.agg (eTKeyPath a0), .agg (eTKeyPath a1)] [.c (.d (.b r))] := by
  refine fn_in Tryz.func139 rfl (by kernel_rfl) Tryz.ntmps139 rfl rfl rfl ?_
  refine wkd ?_
  obtain ⟨v1, Hj, H⟩ := ob H
  refine dr_join ⟨[(4, tB v1)], [], 0⟩ ?_ ?_
  · have H := Hj
    refine wkd ?_
    refine dg2 rfl rfl rfl (fun h => ?_) (fun h => ?_)
    · have H := bt h H
      refine wkd ?_
      obtain ⟨h, H⟩ := rq H
      refine dr_ng rfl rfl rfl rfl (cdhT (enc := eI) h (fun _ => rfl) rfl rfl rfl) ?_
      refine wkd ?_
      obtain ⟨r2, hr2, H⟩ := ob H
      refine dr_ng rfl rfl rfl rfl (ca rfl rfl rfl (iEqualInts_c hr2) trivial rfl rfl rfl rfl) ?_
      refine wkd ?_
      cases H
      exact weak_of ⟨rfl, rfl, trivial⟩ trivial
    · have H := bf h H
      refine wkd ?_
      cases H
      exact weak_of ⟨rfl, rfl, trivial⟩ trivial
  refine wkd ?_
  cases H
  exact fin_ret (.cons (.tmp rfl) .nil) rfl rfl rfl
def iExposes_L1 (a0 : List TLeakedKey) (a1 : Int) (a2 : TKeyPath) : Int → Option (Step (Int) (Bool))
  | v1 => bif ltB v1 ((a0.length : Nat) : Int) then (Option.bind (ix a0 v1) fun x2 => Option.bind (bif eqB x2.Generation a1 then (Option.bind (iIsPrefixPath x2.Path a2) fun r4 => some r4) else (some false)) fun (v3 : Bool) => bif v3 then (dn (some true)) else (some (.next (WR (v1 + 1))))) else (dn (some false))
def iExposes (a0 : List TLeakedKey) (a1 : Int) (a2 : TKeyPath) : Option Bool :=
  iter (iExposes_L1 a0 a1 a2) FU 0
theorem iExposes_c {a0 : List TLeakedKey} {a1 : Int} {a2 : TKeyPath} {r : Bool} (H : iExposes a0 a1 a2 = some r) : Fn Tryz.prog 79 [aL (a0.map eTLeakedKey), aI a1, .agg (eTKeyPath a2)] [.c (.d (.b r))] := by
  refine fn_in Tryz.func79 rfl (by kernel_rfl) Tryz.ntmps79 rfl rfl rfl ?_
  refine wk ?_
  refine awc_iter (fun (q : Int) => ⟨[(1, tI a1), (5, .v (.c (.p 0 0))), (9, .v (.c (.d false (.l (a0.map eTLeakedKey))))), (10, tI ((a0.length : Nat) : Int)), (11, tI q)], [(0, .var 92 [.d false (.l (a2.Steps.map eI))])], 1⟩) H (weak_of ⟨rfl, rfl, rfl, rfl, rfl, rfl, rfl, rfl, rfl, rfl, trivial⟩ ⟨rfl, ⟨rfl, rfl⟩, trivial⟩) ?_
  rintro v1 o H
  try dsimp only
  refine wk ?_
  refine awc_cond rfl (fun h => ?_) (fun h => ?_)
  · have H := bt h H
    refine wk ?_
    obtain ⟨x2, hx2, H⟩ := ob H
    refine awr_n rfl (xdT (enc := eTLeakedKey) hx2 (fun _ => rfl) rfl rfl rfl) ?_
    refine wk ?_
    obtain ⟨v3, Hj, H⟩ := ob H
    refine awr_join ⟨[(1, tI a1), (5, .v (.c (.p 0 0))), (9, .v (.c (.d false (.l (a0.map eTLeakedKey))))), (10, tI ((a0.length : Nat) : Int)), (11, tI v1), (24, tB v3)], [(0, .var 92 [.d false (.l (a2.Steps.map eI))])], 1⟩ ?_ ?_
    · have H := Hj
      refine wk ?_
      refine g2 rfl rfl rfl (fun h => ?_) (fun h => ?_)
      · have H := bt h H
        refine wk ?_
        obtain ⟨r4, hr4, H⟩ := ob H
        refine awr_ng rfl rfl rfl rfl (ca rfl rfl rfl (iIsPrefixPath_c hr4) trivial rfl rfl rfl rfl) ?_
        refine wk ?_
        cases H
        exact weak_of ⟨rfl, rfl, rfl, rfl, rfl, rfl, rfl, rfl, rfl, rfl, rfl, rfl, trivial⟩ ⟨rfl, ⟨rfl, rfl⟩, trivial⟩
      · have H := bf h H
        refine wk ?_
        cases H
        exact weak_of ⟨rfl, rfl, rfl, rfl, rfl, rfl, rfl, rfl, rfl, rfl, rfl, rfl, trivial⟩ ⟨rfl, ⟨rfl, rfl⟩, trivial⟩
    refine wk ?_
    refine awc_cond rfl (fun h => ?_) (fun h => ?_)
    · have H := bt h H
      refine wk ?_
      obtain ⟨r0, Hd, rfl⟩ := dnE H
      refine iq_r (fun hq => ?_)
      have H := Hd.trans (congrArg some hq)
      refine wk ?_
      cases H
      exact fin_ret (.cons (.tmp rfl) .nil) rfl rfl rfl
    · have H := bf h H
      refine wk ?_
      cases H
      refine iq_n ?_
      exact weak_of ⟨rfl, rfl, rfl, rfl, rfl, rfl, rfl, rfl, rfl, rfl, trivial⟩ ⟨rfl, ⟨rfl, rfl⟩, trivial⟩
  · have H := bf h H
    refine wk ?_
    obtain ⟨r0, Hd, rfl⟩ := dnE H
    refine iq_e (fun hq => ?_)
    have H := Hd.trans (congrArg some hq)
    refine wk ?_
    cases H
    exact fin_ret (.cons (.tmp rfl) .nil) rfl rfl rfl
def iRadioKeyPath (a0 : Int) : Option TKeyPath :=
  some (⟨[1, 3, a0]⟩ : TKeyPath)
theorem iRadioKeyPath_c {a0 : Int} {r : TKeyPath} (H : iRadioKeyPath a0 = some r) : Fn Tryz.prog 80 [aI a0] [.agg [.own 3 1 (r.Steps.map eI) r.Steps.length]] := by
  refine fn_in Tryz.func80 rfl (by kernel_rfl) Tryz.ntmps80 rfl rfl rfl ?_
  refine wk ?_
  cases H
  exact fin_ret (.cons (.cell rfl rfl rfl) .nil) rfl rfl (by first | rfl | simp)
def iisReadable (a0 : List TLeakedKey) (a1 : TRadioPacket) : Option Bool :=
  Option.bind (iRadioKeyPath a1.Epoch) fun r1 => Option.bind (iExposes a0 a1.Generation r1) fun r2 => some r2
theorem iisReadable_c {a0 : List TLeakedKey} {a1 : TRadioPacket} {r : Bool} (H : iisReadable a0 a1 = some r) : Fn Tryz.prog 40 [aL (a0.map eTLeakedKey), .agg (eTRadioPacket a1)] [.c (.d (.b r))] := by
  refine fn_in Tryz.func40 rfl (by kernel_rfl) Tryz.ntmps40 rfl rfl rfl ?_
  refine wkd ?_
  obtain ⟨r1, hr1, H⟩ := ob H
  refine dr_n rfl (ca rfl rfl rfl (iRadioKeyPath_c hr1) trivial rfl rfl rfl rfl) ?_
  refine wkd ?_
  obtain ⟨r2, hr2, H⟩ := ob H
  refine dr_n rfl (ca rfl rfl rfl (iExposes_c hr2) ⟨by first | rfl | exact lm _, trivial⟩ rfl rfl rfl rfl) ?_
  refine wkd ?_
  cases H
  exact fin_ret (.cons (.tmp rfl) .nil) rfl rfl rfl
def iReadableFlights_L1 (a0 : TNetwork) (a1 : List TLeakedKey) (a2 : Int) : (Int × List Int) → Option (Step (Int × List Int) (List Int))
  | (v1, v2) => bif ltB v1 ((a0.Flights.length : Nat) : Int) then (Option.bind (ix a0.Flights v1) fun x8 => Option.bind (bif eqB x8.Device a2 then (bif x8.IsRadio then (Option.bind (iisReadable a1 x8.Radio) fun r10 => some r10) else (some false)) else (some false)) fun (v9 : Bool) => Option.bind (bif v9 then (bif apOk 8 (v2 ++ [v1]).length then (some (v2 ++ [v1])) else none) else (some v2)) fun (v11 : List Int) => some (.next (WR (v1 + 1), v11))) else (some (.done v2))
def iReadableFlights (a0 : TNetwork) (a1 : List TLeakedKey) (a2 : Int) : Option (List Int) :=
  Option.bind (iter (iReadableFlights_L1 a0 a1 a2) FU (0, ([] : List Int))) fun (v7 : List Int) => some v7
theorem iReadableFlights_c {a0 : TNetwork} {a1 : List TLeakedKey} {a2 : Int} {r : List Int} (H : iReadableFlights a0 a1 a2 = some r) : Fn Tryz.prog 11 [.agg (eTNetwork a0), aL (a1.map eTLeakedKey), aI a2] [.c (.own 3 1 (r.map eI) r.length)] := by
  refine fn_in Tryz.func11 rfl (by kernel_rfl) Tryz.ntmps11 rfl rfl rfl ?_
  refine wk ?_
  obtain ⟨v7, Hj, H⟩ := ob H
  refine awc_jblk ⟨[(7, .v (.c (.w 1 v7.length)))], [(1, .row 3 1 (v7.map eI) true true)], 2⟩ ?_ ?_
  · refine wk ?_
    refine awc_iter (fun (q : Int × List Int) => ⟨[(1, .v (.c (.d false (.l (a1.map eTLeakedKey))))), (2, tI a2), (7, .v (.c (.w 1 q.2.length))), (12, .v (.c (.d false (.l (a0.Flights.map eTFlight))))), (13, tI ((a0.Flights.length : Nat) : Int)), (14, tI q.1)], [(1, .row 3 1 (q.2.map eI) true true)], 2⟩) Hj (weak_of ⟨rfl, rfl, rfl, rfl, wn rfl (by first | rfl | simp), rfl, rfl, rfl, rfl, rfl, rfl, rfl, trivial⟩ ⟨rfl, ⟨rfl, rfl⟩, trivial⟩) ?_
    rintro ⟨v1, v2⟩ o H
    try dsimp only
    refine wk ?_
    refine awc_cond rfl (fun h => ?_) (fun h => ?_)
    · have H := bt h H
      refine wk ?_
      obtain ⟨x8, hx8, H⟩ := ob H
      refine awr_n rfl (xdT (enc := eTFlight) hx8 (fun _ => rfl) rfl rfl rfl) ?_
      refine wk ?_
      obtain ⟨v9, Hj, H⟩ := ob H
      refine awr_join ⟨[(1, .v (.c (.d false (.l (a1.map eTLeakedKey))))), (2, tI a2), (7, .v (.c (.w 1 v2.length))), (8, tI v1), (12, .v (.c (.d false (.l (a0.Flights.map eTFlight))))), (13, tI ((a0.Flights.length : Nat) : Int)), (14, tI v1), (32, tB v9)], [(1, .row 3 1 (v2.map eI) true true)], 2⟩ ?_ ?_
      · have H := Hj
        refine wk ?_
        refine g2 rfl rfl rfl (fun h => ?_) (fun h => ?_)
        · have H := bt h H
          refine wk ?_
          refine g2 rfl rfl rfl (fun h => ?_) (fun h => ?_)
          · have H := bt h H
            refine wk ?_
            obtain ⟨r10, hr10, H⟩ := ob H
            refine awr_ng rfl rfl rfl rfl (ca rfl rfl rfl (iisReadable_c hr10) trivial rfl rfl rfl rfl) ?_
            refine wk ?_
            cases H
            exact weak_of ⟨rfl, rfl, rfl, rfl, wn rfl (by first | rfl | simp), rfl, rfl, rfl, rfl, rfl, rfl, rfl, rfl, rfl, rfl, rfl, trivial⟩ ⟨rfl, ⟨rfl, rfl⟩, trivial⟩
          · have H := bf h H
            refine wk ?_
            cases H
            exact weak_of ⟨rfl, rfl, rfl, rfl, wn rfl (by first | rfl | simp), rfl, rfl, rfl, rfl, rfl, rfl, rfl, rfl, rfl, rfl, rfl, trivial⟩ ⟨rfl, ⟨rfl, rfl⟩, trivial⟩
        · have H := bf h H
          refine wk ?_
          cases H
          exact weak_of ⟨rfl, rfl, rfl, rfl, wn rfl (by first | rfl | simp), rfl, rfl, rfl, rfl, rfl, rfl, rfl, rfl, rfl, rfl, rfl, trivial⟩ ⟨rfl, ⟨rfl, rfl⟩, trivial⟩
      refine wk ?_
      obtain ⟨v11, Hj, H⟩ := ob H
      refine awc_join ⟨[(1, .v (.c (.d false (.l (a1.map eTLeakedKey))))), (2, tI a2), (7, .v (.c (.w 1 v11.length))), (12, .v (.c (.d false (.l (a0.Flights.map eTFlight))))), (13, tI ((a0.Flights.length : Nat) : Int)), (14, tI v1)], [(1, .row 3 1 (v11.map eI) true true)], 2⟩ ?_ ?_
      · have H := Hj
        refine wk ?_
        refine awc_cond rfl (fun h => ?_) (fun h => ?_)
        · have H := bt h H
          refine wk ?_
          obtain ⟨h, H⟩ := rq H
          refine awr_step rfl (apT (enc := eI) (ys := v2) (zs := [v1]) h rfl (fun _ => rfl) (by first | rfl | simp) (.w rfl (by first | rfl | exact lm _ | simp)) rfl rfl rfl rfl rfl rfl rfl rfl) ?_
          refine wk ?_
          cases H
          exact weak_of ⟨rfl, rfl, rfl, rfl, wn rfl (by first | rfl | simp), rfl, rfl, rfl, rfl, rfl, rfl, rfl, trivial⟩ ⟨rfl, ⟨rfl, rfl⟩, trivial⟩
        · have H := bf h H
          refine wk ?_
          cases H
          exact weak_of ⟨rfl, rfl, rfl, rfl, wn rfl (by first | rfl | simp), rfl, rfl, rfl, rfl, rfl, rfl, rfl, trivial⟩ ⟨rfl, ⟨rfl, rfl⟩, trivial⟩
      refine wk ?_
      cases H
      refine iq_n ?_
      exact weak_of ⟨rfl, rfl, rfl, rfl, wn rfl (by first | rfl | simp), rfl, rfl, rfl, rfl, rfl, rfl, rfl, trivial⟩ ⟨rfl, ⟨rfl, rfl⟩, trivial⟩
    · have H := bf h H
      refine wk ?_
      cases H
      refine iq_e (fun hq => ?_)
      cases hq
      refine wk ?_
      exact weak_of ⟨wn rfl (by first | rfl | simp), rfl, trivial⟩ ⟨rfl, ⟨rfl, rfl⟩, trivial⟩
  refine wk ?_
  cases H
  exact fin_ret (.cons (.tmp rfl) .nil) rfl rfl (by first | rfl | simp)
def iInRange (a0 : Int) (a1 : Int) (a2 : Int) : Option Bool :=
  Option.bind (bif leB a1 a0 then (some (leB a0 a2)) else (some false)) fun (v1 : Bool) => some v1
theorem iInRange_c {a0 : Int} {a1 : Int} {a2 : Int} {r : Bool} (H : iInRange a0 a1 a2 = some r) : Fn Tryz.prog 55 [aI a0, aI a1, aI a2] [.c (.d (.b r))] := by
  refine fn_in Tryz.func55 rfl (by kernel_rfl) Tryz.ntmps55 rfl rfl rfl ?_
  refine wk ?_
  obtain ⟨v1, Hj, H⟩ := ob H
  refine awr_join ⟨[(6, tB v1)], [], 0⟩ ?_ ?_
  · have H := Hj
    refine wk ?_
    refine g2 rfl rfl rfl (fun h => ?_) (fun h => ?_)
    · have H := bt h H
      refine wk ?_
      cases H
      exact weak_of ⟨rfl, rfl, trivial⟩ trivial
    · have H := bf h H
      refine wk ?_
      cases H
      exact weak_of ⟨rfl, rfl, trivial⟩ trivial
  refine wk ?_
  cases H
  exact fin_ret (.cons (.tmp rfl) .nil) rfl rfl rfl
def iisCell (a0 : TCellMap) (a1 : Int) : Option Bool :=
  Option.bind (iInRange a1 0 (WR (((a0.Cells.length : Nat) : Int) - 1))) fun r1 => some r1
theorem iisCell_c {a0 : TCellMap} {a1 : Int} {r : Bool} (H : iisCell a0 a1 = some r) : Fn Tryz.prog 109 [.agg (eTCellMap a0), aI a1] [.c (.d (.b r))] := by
  refine fn_in Tryz.func109 rfl (by kernel_rfl) Tryz.ntmps109 rfl rfl rfl ?_
  refine wk ?_
  obtain ⟨r1, hr1, H⟩ := ob H
  refine awr_n rfl (ca rfl rfl rfl (iInRange_c hr1) trivial rfl rfl rfl rfl) ?_
  refine wk ?_
  cases H
  exact fin_ret (.cons (.tmp rfl) .nil) rfl rfl rfl
def iisAscending_L1 (a0 : List Int) : Int → Option (Step (Int) (Bool))
  | v1 => bif ltB v1 ((a0.length : Nat) : Int) then (Option.bind (ix a0 (WR (v1 - 1))) fun x2 => Option.bind (ix a0 v1) fun x3 => bif leB x3 x2 then (dn (some false)) else (some (.next (WR (v1 + 1))))) else (dn (some true))
def iisAscending (a0 : List Int) : Option Bool :=
  iter (iisAscending_L1 a0) FU 1
theorem iisAscending_c {a0 : List Int} {r : Bool} (H : iisAscending a0 = some r) : Fn Tryz.prog 170 [aL (a0.map eI)] [.c (.d (.b r))] := by
  refine fn_in Tryz.func170 rfl (by kernel_rfl) Tryz.ntmps170 rfl rfl rfl ?_
  refine wkd ?_
  refine awc_iter (fun (q : Int) => ⟨[(0, .v (.c (.d false (.l (a0.map eI))))), (3, tI q)], [], 0⟩) H (weak_of ⟨rfl, rfl, rfl, rfl, trivial⟩ trivial) ?_
  rintro v1 o H
  try dsimp only
  refine wkd ?_
  refine awc_cond rfl (fun h => ?_) (fun h => ?_)
  · have H := bt h H
    refine wkd ?_
    obtain ⟨x2, hx2, H⟩ := ob H
    refine dr_n rfl (xdT (enc := eI) hx2 (fun _ => rfl) rfl rfl rfl) ?_
    refine wkd ?_
    obtain ⟨x3, hx3, H⟩ := ob H
    refine dr_n rfl (xdT (enc := eI) hx3 (fun _ => rfl) rfl rfl rfl) ?_
    refine wkd ?_
    refine awc_cond rfl (fun h => ?_) (fun h => ?_)
    · have H := bt h H
      refine wkd ?_
      obtain ⟨r0, Hd, rfl⟩ := dnE H
      refine iq_r (fun hq => ?_)
      have H := Hd.trans (congrArg some hq)
      refine wkd ?_
      cases H
      exact fin_ret (.cons (.tmp rfl) .nil) rfl rfl rfl
    · have H := bf h H
      refine wkd ?_
      cases H
      refine iq_n ?_
      exact weak_of ⟨rfl, rfl, rfl, rfl, trivial⟩ trivial
  · have H := bf h H
    refine wkd ?_
    obtain ⟨r0, Hd, rfl⟩ := dnE H
    refine iq_e (fun hq => ?_)
    have H := Hd.trans (congrArg some hq)
    refine wkd ?_
    cases H
    exact fin_ret (.cons (.tmp rfl) .nil) rfl rfl rfl
def iAreNeighbors (a0 : TCellMap) (a1 : Int) (a2 : Int) : Option Bool :=
  Option.bind (iisCell a0 a1) fun r1 => Option.bind (bif r1 then (Option.bind (ix a0.Cells a1) fun x3 => Option.bind (gslices_Contains_int_int x3.Neighbors a2) fun r4 => some r4) else (some false)) fun (v2 : Bool) => some v2
theorem iAreNeighbors_c {a0 : TCellMap} {a1 : Int} {a2 : Int} {r : Bool} (H : iAreNeighbors a0 a1 a2 = some r) : Fn Tryz.prog 171 [.agg (eTCellMap a0), aI a1, aI a2] [.c (.d (.b r))] := by
  refine fn_in Tryz.func171 rfl (by kernel_rfl) Tryz.ntmps171 rfl rfl rfl ?_
  refine wk ?_
  obtain ⟨r1, hr1, H⟩ := ob H
  refine awr_n rfl (ca rfl rfl rfl (iisCell_c hr1) trivial rfl rfl rfl rfl) ?_
  refine wk ?_
  obtain ⟨v2, Hj, H⟩ := ob H
  refine awr_join ⟨[(6, tB v2)], [], 0⟩ ?_ ?_
  · have H := Hj
    refine wk ?_
    refine g2 rfl rfl rfl (fun h => ?_) (fun h => ?_)
    · have H := bt h H
      refine wk ?_
      obtain ⟨x3, hx3, H⟩ := ob H
      refine awr_ng rfl rfl rfl rfl (xdT (enc := eTCell) hx3 (fun _ => rfl) rfl rfl rfl) ?_
      refine wk ?_
      obtain ⟨r4, hr4, H⟩ := ob H
      refine awr_ng rfl rfl rfl rfl (ca rfl rfl rfl (gslices_Contains_int_int_c hr4) trivial rfl rfl rfl rfl) ?_
      refine wk ?_
      cases H
      exact weak_of ⟨rfl, rfl, trivial⟩ trivial
    · have H := bf h H
      refine wk ?_
      cases H
      exact weak_of ⟨rfl, rfl, trivial⟩ trivial
  refine wk ?_
  cases H
  exact fin_ret (.cons (.tmp rfl) .nil) rfl rfl rfl
def iIsValidMap_L2 (a0 : TCellMap) (v2 : Int) (x3 : TCell) : Int → Option (Step (Int) (Step (Int) (Bool)))
  | v7 => bif ltB v7 ((x3.Neighbors.length : Nat) : Int) then (Option.bind (ix x3.Neighbors v7) fun x8 => Option.bind (bif eqB x8 v2 then (some true) else (Option.bind (iisCell a0 x8) fun r10 => bif !r10 then (some true) else (Option.bind (iAreNeighbors a0 x8 v2) fun r11 => some (!r11)))) fun (v9 : Bool) => bif v9 then (dn (dn (some false))) else (some (.next (WR (v7 + 1))))) else (dn (some (.next (WR (v2 + 1)))))
def iIsValidMap_L1 (a0 : TCellMap) : Int → Option (Step (Int) (Bool))
  | v2 => bif ltB v2 ((a0.Cells.length : Nat) : Int) then (Option.bind (ix a0.Cells v2) fun x3 => Option.bind (iInRange x3.Area 0 2) fun r4 => Option.bind (bif !r4 then (some true) else (Option.bind (iisAscending x3.Neighbors) fun r6 => some (!r6))) fun (v5 : Bool) => bif v5 then (dn (some false)) else (iter (iIsValidMap_L2 a0 v2 x3) FU 0)) else (dn (some true))
def iIsValidMap (a0 : TCellMap) : Option Bool :=
  Option.bind (iInRange ((a0.Cells.length : Nat) : Int) 1 6) fun r1 => bif !r1 then (some false) else (iter (iIsValidMap_L1 a0) FU 0)
theorem iIsValidMap_c {a0 : TCellMap} {r : Bool} (H : iIsValidMap a0 = some r) : Fn Tryz.prog 106 [.agg (eTCellMap a0)] [.c (.d (.b r))] := by
  refine fn_in Tryz.func106 rfl (by kernel_rfl) Tryz.ntmps106 rfl rfl rfl ?_
  refine wk ?_
  obtain ⟨r1, hr1, H⟩ := ob H
  refine awr_n rfl (ca rfl rfl rfl (iInRange_c hr1) trivial rfl rfl rfl rfl) ?_
  refine wk ?_
  refine awc_cond rfl (fun h => ?_) (fun h => ?_)
  · have H := bt h H
    refine wk ?_
    cases H
    exact fin_ret (.cons (.tmp rfl) .nil) rfl rfl rfl
  · have H := bf h H
    refine wk ?_
    refine awc_iter (fun (q : Int) => ⟨[(1, .v (.c (.p 0 0))), (13, .v (.c (.d false (.l (a0.Cells.map eTCell))))), (14, tI ((a0.Cells.length : Nat) : Int)), (15, tI q)], [(0, .var 40 [.d false (.l (a0.Cells.map eTCell))])], 1⟩) H (weak_of ⟨rfl, rfl, rfl, rfl, rfl, rfl, rfl, rfl, trivial⟩ ⟨rfl, ⟨rfl, rfl⟩, trivial⟩) ?_
    rintro v2 o H
    try dsimp only
    refine wk ?_
    refine awc_cond rfl (fun h => ?_) (fun h => ?_)
    · have H := bt h H
      refine wk ?_
      obtain ⟨x3, hx3, H⟩ := ob H
      refine awr_n rfl (xdT (enc := eTCell) hx3 (fun _ => rfl) rfl rfl rfl) ?_
      refine wk ?_
      obtain ⟨r4, hr4, H⟩ := ob H
      refine awr_n rfl (ca rfl rfl rfl (iInRange_c hr4) trivial rfl rfl rfl rfl) ?_
      refine wk ?_
      obtain ⟨v5, Hj, H⟩ := ob H
      refine awr_join ⟨[(1, .v (.c (.p 0 0))), (3, tI v2), (4, .v (.c (.p 1 0))), (13, .v (.c (.d false (.l (a0.Cells.map eTCell))))), (14, tI ((a0.Cells.length : Nat) : Int)), (15, tI v2), (29, tB v5)], [(0, .var 40 [.d false (.l (a0.Cells.map eTCell))]), (1, .var 213 [.d false (.i .i64 x3.Area), .d false (.l (x3.Neighbors.map eI))])], 2⟩ ?_ ?_
      · have H := Hj
        refine wk ?_
        refine g2 rfl rfl rfl (fun h => ?_) (fun h => ?_)
        · have H := bt h H
          refine wk ?_
          cases H
          exact weak_of ⟨rfl, rfl, rfl, rfl, rfl, rfl, rfl, rfl, rfl, rfl, rfl, rfl, rfl, rfl, trivial⟩ ⟨rfl, ⟨rfl, rfl⟩, rfl, ⟨rfl, rfl⟩, trivial⟩
        · have H := bf h H
          refine wk ?_
          obtain ⟨r6, hr6, H⟩ := ob H
          refine awr_ng rfl rfl rfl rfl (ca rfl rfl rfl (iisAscending_c hr6) trivial rfl rfl rfl rfl) ?_
          refine wk ?_
          cases H
          exact weak_of ⟨rfl, rfl, rfl, rfl, rfl, rfl, rfl, rfl, rfl, rfl, rfl, rfl, rfl, rfl, trivial⟩ ⟨rfl, ⟨rfl, rfl⟩, rfl, ⟨rfl, rfl⟩, trivial⟩
      refine wk ?_
      refine awc_cond rfl (fun h => ?_) (fun h => ?_)
      · have H := bt h H
        refine wk ?_
        obtain ⟨r0, Hd, rfl⟩ := dnE H
        refine iq_r (fun hq => ?_)
        have H := Hd.trans (congrArg some hq)
        refine wk ?_
        cases H
        exact fin_ret (.cons (.tmp rfl) .nil) rfl rfl rfl
      · have H := bf h H
        refine wk ?_
        refine awc_iter (fun (q : Int) => ⟨[(1, .v (.c (.p 0 0))), (3, tI v2), (13, .v (.c (.d false (.l (a0.Cells.map eTCell))))), (14, tI ((a0.Cells.length : Nat) : Int)), (15, tI v2), (31, .v (.c (.d false (.l (x3.Neighbors.map eI))))), (32, tI ((x3.Neighbors.length : Nat) : Int)), (33, tI q)], [(0, .var 40 [.d false (.l (a0.Cells.map eTCell))])], 1⟩) H (weak_of ⟨rfl, rfl, rfl, rfl, rfl, rfl, rfl, rfl, rfl, rfl, rfl, rfl, rfl, rfl, rfl, rfl, trivial⟩ ⟨rfl, ⟨rfl, rfl⟩, trivial⟩) ?_
        rintro v7 o H
        try dsimp only
        refine wk ?_
        refine awc_cond rfl (fun h => ?_) (fun h => ?_)
        · have H := bt h H
          refine wk ?_
          obtain ⟨x8, hx8, H⟩ := ob H
          refine awr_n rfl (xdT (enc := eI) hx8 (fun _ => rfl) rfl rfl rfl) ?_
          refine wk ?_
          obtain ⟨v9, Hj, H⟩ := ob H
          refine awr_join ⟨[(1, .v (.c (.p 0 0))), (3, tI v2), (13, .v (.c (.d false (.l (a0.Cells.map eTCell))))), (14, tI ((a0.Cells.length : Nat) : Int)), (15, tI v2), (31, .v (.c (.d false (.l (x3.Neighbors.map eI))))), (32, tI ((x3.Neighbors.length : Nat) : Int)), (33, tI v7), (52, tB v9)], [(0, .var 40 [.d false (.l (a0.Cells.map eTCell))])], 1⟩ ?_ ?_
          · have H := Hj
            refine wk ?_
            refine g2 rfl rfl rfl (fun h => ?_) (fun h => ?_)
            · have H := bt h H
              refine wk ?_
              cases H
              exact weak_of ⟨rfl, rfl, rfl, rfl, rfl, rfl, rfl, rfl, rfl, rfl, rfl, rfl, rfl, rfl, rfl, rfl, rfl, rfl, trivial⟩ ⟨rfl, ⟨rfl, rfl⟩, trivial⟩
            · have H := bf h H
              refine wk ?_
              obtain ⟨r10, hr10, H⟩ := ob H
              refine awr_ng rfl rfl rfl rfl (ca rfl rfl rfl (iisCell_c hr10) trivial rfl rfl rfl rfl) ?_
              refine wk ?_
              refine g2 rfl rfl rfl (fun h => ?_) (fun h => ?_)
              · have H := bt h H
                refine wk ?_
                cases H
                exact weak_of ⟨rfl, rfl, rfl, rfl, rfl, rfl, rfl, rfl, rfl, rfl, rfl, rfl, rfl, rfl, rfl, rfl, rfl, rfl, trivial⟩ ⟨rfl, ⟨rfl, rfl⟩, trivial⟩
              · have H := bf h H
                refine wk ?_
                obtain ⟨r11, hr11, H⟩ := ob H
                refine awr_ng rfl rfl rfl rfl (ca rfl rfl rfl (iAreNeighbors_c hr11) trivial rfl rfl rfl rfl) ?_
                refine wk ?_
                cases H
                exact weak_of ⟨rfl, rfl, rfl, rfl, rfl, rfl, rfl, rfl, rfl, rfl, rfl, rfl, rfl, rfl, rfl, rfl, rfl, rfl, trivial⟩ ⟨rfl, ⟨rfl, rfl⟩, trivial⟩
          refine wk ?_
          refine awc_cond rfl (fun h => ?_) (fun h => ?_)
          · have H := bt h H
            refine wk ?_
            obtain ⟨r0, Hd, rfl⟩ := dnE H
            refine iq_r (fun hq => ?_)
            have H := Hd.trans (congrArg some hq)
            refine wk ?_
            obtain ⟨r0, Hd, rfl⟩ := dnE H
            refine iq_r (fun hq => ?_)
            have H := Hd.trans (congrArg some hq)
            refine wk ?_
            cases H
            exact fin_ret (.cons (.tmp rfl) .nil) rfl rfl rfl
          · have H := bf h H
            refine wk ?_
            cases H
            refine iq_n ?_
            exact weak_of ⟨rfl, rfl, rfl, rfl, rfl, rfl, rfl, rfl, rfl, rfl, rfl, rfl, rfl, rfl, rfl, rfl, trivial⟩ ⟨rfl, ⟨rfl, rfl⟩, trivial⟩
        · have H := bf h H
          refine wk ?_
          obtain ⟨r0, Hd, rfl⟩ := dnE H
          refine iq_e (fun hq => ?_)
          have H := Hd.trans (congrArg some hq)
          refine wk ?_
          cases H
          refine iq_n ?_
          exact weak_of ⟨rfl, rfl, rfl, rfl, rfl, rfl, rfl, rfl, trivial⟩ ⟨rfl, ⟨rfl, rfl⟩, trivial⟩
    · have H := bf h H
      refine wk ?_
      obtain ⟨r0, Hd, rfl⟩ := dnE H
      refine iq_e (fun hq => ?_)
      have H := Hd.trans (congrArg some hq)
      refine wk ?_
      cases H
      exact fin_ret (.cons (.tmp rfl) .nil) rfl rfl rfl
def iIsValidPool (a0 : TServerPool) : Option Bool :=
  Option.bind (iInRange a0.Size 1 6) fun r1 => Option.bind (bif r1 then (bif leB 0 a0.Size then (Option.bind (iInRange a0.UpMask 0 (WR ((bShl .i64 1 a0.Size) - 1))) fun r3 => some r3) else none) else (some false)) fun (v2 : Bool) => some v2
theorem iIsValidPool_c {a0 : TServerPool} {r : Bool} (H : iIsValidPool a0 = some r) : Fn Tryz.prog 107 [.agg (eTServerPool a0)] [.c (.d (.b r))] := by
  refine fn_in Tryz.func107 rfl (by kernel_rfl) Tryz.ntmps107 rfl rfl rfl ?_
  refine wkd ?_
  obtain ⟨r1, hr1, H⟩ := ob H
  refine dr_n rfl (ca rfl rfl rfl (iInRange_c hr1) trivial rfl rfl rfl rfl) ?_
  refine wkd ?_
  obtain ⟨v2, Hj, H⟩ := ob H
  refine dr_join ⟨[(2, tB v2)], [], 0⟩ ?_ ?_
  · have H := Hj
    refine wkd ?_
    refine dg2 rfl rfl rfl (fun h => ?_) (fun h => ?_)
    · have H := bt h H
      refine wkd ?_
      obtain ⟨h, H⟩ := rq H
      refine dr_ng rfl rfl rfl rfl (ishT h rfl rfl rfl rfl) ?_
      refine wkd ?_
      obtain ⟨r3, hr3, H⟩ := ob H
      refine dr_ng rfl rfl rfl rfl (ca rfl rfl rfl (iInRange_c hr3) trivial rfl rfl rfl rfl) ?_
      refine wkd ?_
      cases H
      exact weak_of ⟨rfl, rfl, trivial⟩ trivial
    · have H := bf h H
      refine wkd ?_
      cases H
      exact weak_of ⟨rfl, rfl, trivial⟩ trivial
  refine wkd ?_
  cases H
  exact fin_ret (.cons (.tmp rfl) .nil) rfl rfl rfl
def iIsValidKey (a0 : Int) : Option Bool :=
  Option.bind (iInRange a0 1 2147483646) fun r1 => some r1
theorem iIsValidKey_c {a0 : Int} {r : Bool} (H : iIsValidKey a0 = some r) : Fn Tryz.prog 215 [aI a0] [.c (.d (.b r))] := by
  refine fn_in Tryz.func215 rfl (by kernel_rfl) Tryz.ntmps215 rfl rfl rfl ?_
  refine wk ?_
  obtain ⟨r1, hr1, H⟩ := ob H
  refine awr_n rfl (ca rfl rfl rfl (iInRange_c hr1) trivial rfl rfl rfl rfl) ?_
  refine wk ?_
  cases H
  exact fin_ret (.cons (.tmp rfl) .nil) rfl rfl rfl
def iIsValidSubscriberID (a0 : TSubscriberID) : Option Bool :=
  Option.bind (iInRange a0.Network 0 3) fun r1 => Option.bind (bif r1 then (Option.bind (iInRange a0.Number 0 99) fun r3 => some r3) else (some false)) fun (v2 : Bool) => some v2
theorem iIsValidSubscriberID_c {a0 : TSubscriberID} {r : Bool} (H : iIsValidSubscriberID a0 = some r) : Fn Tryz.prog 244 [.agg (eTSubscriberID a0)] [.c (.d (.b r))] := by
  refine fn_in Tryz.func244 rfl (by kernel_rfl) Tryz.ntmps244 rfl rfl rfl ?_
  refine wk ?_
  obtain ⟨r1, hr1, H⟩ := ob H
  refine awr_n rfl (ca rfl rfl rfl (iInRange_c hr1) trivial rfl rfl rfl rfl) ?_
  refine wk ?_
  obtain ⟨v2, Hj, H⟩ := ob H
  refine awr_join ⟨[(2, tB v2)], [], 0⟩ ?_ ?_
  · have H := Hj
    refine wk ?_
    refine g2 rfl rfl rfl (fun h => ?_) (fun h => ?_)
    · have H := bt h H
      refine wk ?_
      obtain ⟨r3, hr3, H⟩ := ob H
      refine awr_ng rfl rfl rfl rfl (ca rfl rfl rfl (iInRange_c hr3) trivial rfl rfl rfl rfl) ?_
      refine wk ?_
      cases H
      exact weak_of ⟨rfl, rfl, trivial⟩ trivial
    · have H := bf h H
      refine wk ?_
      cases H
      exact weak_of ⟨rfl, rfl, trivial⟩ trivial
  refine wk ?_
  cases H
  exact fin_ret (.cons (.tmp rfl) .nil) rfl rfl rfl
def iIsValidUSIM (a0 : TUSIM) : Option Bool :=
  Option.bind (iIsValidSubscriberID a0.ID) fun r1 => Option.bind (bif r1 then (Option.bind (iIsValidKey a0.Key) fun r3 => bif r3 then (Option.bind (iInRange a0.LastSeq 0 999999) fun r4 => some r4) else (some false)) else (some false)) fun (v2 : Bool) => some v2
theorem iIsValidUSIM_c {a0 : TUSIM} {r : Bool} (H : iIsValidUSIM a0 = some r) : Fn Tryz.prog 214 [.agg (eTUSIM a0)] [.c (.d (.b r))] := by
  refine fn_in Tryz.func214 rfl (by kernel_rfl) Tryz.ntmps214 rfl rfl rfl ?_
  refine wk ?_
  obtain ⟨r1, hr1, H⟩ := ob H
  refine awr_n rfl (ca rfl rfl rfl (iIsValidSubscriberID_c hr1) trivial rfl rfl rfl rfl) ?_
  refine wk ?_
  obtain ⟨v2, Hj, H⟩ := ob H
  refine awr_join ⟨[(2, tB v2)], [], 0⟩ ?_ ?_
  · have H := Hj
    refine wk ?_
    refine g2 rfl rfl rfl (fun h => ?_) (fun h => ?_)
    · have H := bt h H
      refine wk ?_
      obtain ⟨r3, hr3, H⟩ := ob H
      refine awr_ng rfl rfl rfl rfl (ca rfl rfl rfl (iIsValidKey_c hr3) trivial rfl rfl rfl rfl) ?_
      refine wk ?_
      refine g2 rfl rfl rfl (fun h => ?_) (fun h => ?_)
      · have H := bt h H
        refine wk ?_
        obtain ⟨r4, hr4, H⟩ := ob H
        refine awr_ng rfl rfl rfl rfl (ca rfl rfl rfl (iInRange_c hr4) trivial rfl rfl rfl rfl) ?_
        refine wk ?_
        cases H
        exact weak_of ⟨rfl, rfl, trivial⟩ trivial
      · have H := bf h H
        refine wk ?_
        cases H
        exact weak_of ⟨rfl, rfl, trivial⟩ trivial
    · have H := bf h H
      refine wk ?_
      cases H
      exact weak_of ⟨rfl, rfl, trivial⟩ trivial
  refine wk ?_
  cases H
  exact fin_ret (.cons (.tmp rfl) .nil) rfl rfl rfl
def ifitPayload_L1 (a0 : List TPayload) : Int → Option (Step (Int) (Bool))
  | v1 => bif ltB v1 ((a0.length : Nat) : Int) then (Option.bind (ix a0 v1) fun x2 => bif ltB 60 ((x2.Data.length : Nat) : Int) then (dn (some false)) else (some (.next (WR (v1 + 1))))) else (dn (some true))
def ifitPayload (a0 : List TPayload) : Option Bool :=
  iter (ifitPayload_L1 a0) FU 0
theorem ifitPayload_c {a0 : List TPayload} {r : Bool} (H : ifitPayload a0 = some r) : Fn Tryz.prog 222 [aL (a0.map eTPayload)] [.c (.d (.b r))] := by
  refine fn_in Tryz.func222 rfl (by kernel_rfl) Tryz.ntmps222 rfl rfl rfl ?_
  refine wk ?_
  refine awc_iter (fun (q : Int) => ⟨[(5, .v (.c (.d false (.l (a0.map eTPayload))))), (6, tI ((a0.length : Nat) : Int)), (7, tI q)], [], 0⟩) H (weak_of ⟨rfl, rfl, rfl, rfl, rfl, rfl, trivial⟩ trivial) ?_
  rintro v1 o H
  try dsimp only
  refine wk ?_
  refine awc_cond rfl (fun h => ?_) (fun h => ?_)
  · have H := bt h H
    refine wk ?_
    obtain ⟨x2, hx2, H⟩ := ob H
    refine awr_n rfl (xdT (enc := eTPayload) hx2 (fun _ => rfl) rfl rfl rfl) ?_
    refine wk ?_
    refine awc_cond rfl (fun h => ?_) (fun h => ?_)
    · have H := bt h H
      refine wk ?_
      obtain ⟨r0, Hd, rfl⟩ := dnE H
      refine iq_r (fun hq => ?_)
      have H := Hd.trans (congrArg some hq)
      refine wk ?_
      cases H
      exact fin_ret (.cons (.tmp rfl) .nil) rfl rfl rfl
    · have H := bf h H
      refine wk ?_
      cases H
      refine iq_n ?_
      exact weak_of ⟨rfl, rfl, rfl, rfl, rfl, rfl, trivial⟩ trivial
  · have H := bf h H
    refine wk ?_
    obtain ⟨r0, Hd, rfl⟩ := dnE H
    refine iq_e (fun hq => ?_)
    have H := Hd.trans (congrArg some hq)
    refine wk ?_
    cases H
    exact fin_ret (.cons (.tmp rfl) .nil) rfl rfl rfl
def iIsValidReceiver_L1 (a0 : TReceiveWindow) : Int → Option (Step (Int) (Bool))
  | v3 => bif ltB v3 ((a0.Pending.length : Nat) : Int) then (Option.bind (ix a0.Pending v3) fun x4 => Option.bind (bif ltB 60 ((x4.Data.length : Nat) : Int) then (some true) else (Option.bind (iInRange x4.Seq (WR (a0.Next + 1)) (WR ((WR (a0.Next + 8)) - 1))) fun r6 => some (!r6))) fun (v5 : Bool) => bif v5 then (dn (some false)) else (Option.bind (bif ltB 0 v3 then (Option.bind (ix a0.Pending (WR (v3 - 1))) fun x8 => some (leB x4.Seq x8.Seq)) else (some false)) fun (v7 : Bool) => bif v7 then (dn (some false)) else (some (.next (WR (v3 + 1)))))) else (dn (some true))
def iIsValidReceiver (a0 : TReceiveWindow) : Option Bool :=
  Option.bind (bif !eqB a0.Next (WR (((a0.Delivered.length : Nat) : Int) + 1)) then (some true) else (bif ltB 24 ((a0.Delivered.length : Nat) : Int) then (some true) else (Option.bind (ifitPayload a0.Delivered) fun r2 => bif !r2 then (some true) else (some (ltB 8 ((a0.Pending.length : Nat) : Int)))))) fun (v1 : Bool) => bif v1 then (some false) else (iter (iIsValidReceiver_L1 a0) FU 0)
theorem iIsValidReceiver_c {a0 : TReceiveWindow} {r : Bool} (H : iIsValidReceiver a0 = some r) : Fn Tryz.prog 216 [.agg (eTReceiveWindow a0)] [.c (.d (.b r))] := by
  refine fn_in Tryz.func216 rfl (by kernel_rfl) Tryz.ntmps216 rfl rfl rfl ?_
  refine wkd ?_
  obtain ⟨v1, Hj, H⟩ := ob H
  refine awr_join ⟨[(1, .v (.c (.p 0 0))), (29, tB v1)], [(0, .var 172 [.d false (.i .i64 a0.Next), .d false (.l (a0.Pending.map eTNumberedPacket)), .d false (.l (a0.Delivered.map eTPayload))])], 1⟩ ?_ ?_
  · have H := Hj
    refine wkd ?_
    refine g2 rfl rfl rfl (fun h => ?_) (fun h => ?_)
    · have H := bt h H
      refine wkd ?_
      cases H
      exact weak_of ⟨rfl, rfl, rfl, rfl, trivial⟩ ⟨rfl, ⟨rfl, rfl⟩, trivial⟩
    · have H := bf h H
      refine wkd ?_
      refine g2 rfl rfl rfl (fun h => ?_) (fun h => ?_)
      · have H := bt h H
        refine wkd ?_
        cases H
        exact weak_of ⟨rfl, rfl, rfl, rfl, trivial⟩ ⟨rfl, ⟨rfl, rfl⟩, trivial⟩
      · have H := bf h H
        refine wkd ?_
        obtain ⟨r2, hr2, H⟩ := ob H
        refine awr_ng rfl rfl rfl rfl (ca rfl rfl rfl (ifitPayload_c hr2) trivial rfl rfl rfl rfl) ?_
        refine wkd ?_
        refine g2 rfl rfl rfl (fun h => ?_) (fun h => ?_)
        · have H := bt h H
          refine wkd ?_
          cases H
          exact weak_of ⟨rfl, rfl, rfl, rfl, trivial⟩ ⟨rfl, ⟨rfl, rfl⟩, trivial⟩
        · have H := bf h H
          refine wkd ?_
          cases H
          exact weak_of ⟨rfl, rfl, rfl, rfl, trivial⟩ ⟨rfl, ⟨rfl, rfl⟩, trivial⟩
  refine wkd ?_
  refine awc_cond rfl (fun h => ?_) (fun h => ?_)
  · have H := bt h H
    refine wkd ?_
    cases H
    exact fin_ret (.cons (.tmp rfl) .nil) rfl rfl rfl
  · have H := bf h H
    refine wkd ?_
    refine awc_iter (fun (q : Int) => ⟨[(1, .v (.c (.p 0 0))), (31, .v (.c (.d false (.l (a0.Pending.map eTNumberedPacket))))), (32, tI ((a0.Pending.length : Nat) : Int)), (33, tI q)], [(0, .var 172 [.d false (.i .i64 a0.Next), .d false (.l (a0.Pending.map eTNumberedPacket)), .d false (.l (a0.Delivered.map eTPayload))])], 1⟩) H (weak_of ⟨rfl, rfl, rfl, rfl, rfl, rfl, rfl, rfl, trivial⟩ ⟨rfl, ⟨rfl, rfl⟩, trivial⟩) ?_
    rintro v3 o H
    try dsimp only
    refine wkd ?_
    refine awc_cond rfl (fun h => ?_) (fun h => ?_)
    · have H := bt h H
      refine wkd ?_
      obtain ⟨x4, hx4, H⟩ := ob H
      refine awr_n rfl (xdT (enc := eTNumberedPacket) hx4 (fun _ => rfl) rfl rfl rfl) ?_
      refine wkd ?_
      obtain ⟨v5, Hj, H⟩ := ob H
      refine awr_join ⟨[(1, .v (.c (.p 0 0))), (3, tI v3), (4, .v (.c (.p 1 0))), (31, .v (.c (.d false (.l (a0.Pending.map eTNumberedPacket))))), (32, tI ((a0.Pending.length : Nat) : Int)), (33, tI v3), (54, tB v5)], [(0, .var 172 [.d false (.i .i64 a0.Next), .d false (.l (a0.Pending.map eTNumberedPacket)), .d false (.l (a0.Delivered.map eTPayload))]), (1, .var 127 [.d false (.i .i64 x4.Seq), .d false (.l (x4.Data.map eU8))])], 2⟩ ?_ ?_
      · have H := Hj
        refine wkd ?_
        refine g2 rfl rfl rfl (fun h => ?_) (fun h => ?_)
        · have H := bt h H
          refine wkd ?_
          cases H
          exact weak_of ⟨rfl, rfl, rfl, rfl, rfl, rfl, rfl, rfl, rfl, rfl, rfl, rfl, rfl, rfl, trivial⟩ ⟨rfl, ⟨rfl, rfl⟩, rfl, ⟨rfl, rfl⟩, trivial⟩
        · have H := bf h H
          refine wkd ?_
          obtain ⟨r6, hr6, H⟩ := ob H
          refine awr_ng rfl rfl rfl rfl (ca rfl rfl rfl (iInRange_c hr6) trivial rfl rfl rfl rfl) ?_
          refine wkd ?_
          cases H
          exact weak_of ⟨rfl, rfl, rfl, rfl, rfl, rfl, rfl, rfl, rfl, rfl, rfl, rfl, rfl, rfl, trivial⟩ ⟨rfl, ⟨rfl, rfl⟩, rfl, ⟨rfl, rfl⟩, trivial⟩
      refine wkd ?_
      refine awc_cond rfl (fun h => ?_) (fun h => ?_)
      · have H := bt h H
        refine wkd ?_
        obtain ⟨r0, Hd, rfl⟩ := dnE H
        refine iq_r (fun hq => ?_)
        have H := Hd.trans (congrArg some hq)
        refine wkd ?_
        cases H
        exact fin_ret (.cons (.tmp rfl) .nil) rfl rfl rfl
      · have H := bf h H
        refine wkd ?_
        obtain ⟨v7, Hj, H⟩ := ob H
        refine dr_join ⟨[(1, .v (.c (.p 0 0))), (31, .v (.c (.d false (.l (a0.Pending.map eTNumberedPacket))))), (32, tI ((a0.Pending.length : Nat) : Int)), (33, tI v3), (68, tB v7)], [(0, .var 172 [.d false (.i .i64 a0.Next), .d false (.l (a0.Pending.map eTNumberedPacket)), .d false (.l (a0.Delivered.map eTPayload))])], 1⟩ ?_ ?_
        · have H := Hj
          refine wkd ?_
          refine dg2 rfl rfl rfl (fun h => ?_) (fun h => ?_)
          · have H := bt h H
            refine wkd ?_
            obtain ⟨x8, hx8, H⟩ := ob H
            refine dr_ng rfl rfl rfl rfl (xdT (enc := eTNumberedPacket) hx8 (fun _ => rfl) rfl rfl rfl) ?_
            refine wkd ?_
            cases H
            exact weak_of ⟨rfl, rfl, rfl, rfl, rfl, rfl, rfl, rfl, rfl, rfl, trivial⟩ ⟨rfl, ⟨rfl, rfl⟩, trivial⟩
          · have H := bf h H
            refine wkd ?_
            cases H
            exact weak_of ⟨rfl, rfl, rfl, rfl, rfl, rfl, rfl, rfl, rfl, rfl, trivial⟩ ⟨rfl, ⟨rfl, rfl⟩, trivial⟩
        refine wkd ?_
        refine awc_cond rfl (fun h => ?_) (fun h => ?_)
        · have H := bt h H
          refine wkd ?_
          obtain ⟨r0, Hd, rfl⟩ := dnE H
          refine iq_r (fun hq => ?_)
          have H := Hd.trans (congrArg some hq)
          refine wkd ?_
          cases H
          exact fin_ret (.cons (.tmp rfl) .nil) rfl rfl rfl
        · have H := bf h H
          refine wkd ?_
          cases H
          refine iq_n ?_
          exact weak_of ⟨rfl, rfl, rfl, rfl, rfl, rfl, rfl, rfl, trivial⟩ ⟨rfl, ⟨rfl, rfl⟩, trivial⟩
    · have H := bf h H
      refine wkd ?_
      obtain ⟨r0, Hd, rfl⟩ := dnE H
      refine iq_e (fun hq => ?_)
      have H := Hd.trans (congrArg some hq)
      refine wkd ?_
      cases H
      exact fin_ret (.cons (.tmp rfl) .nil) rfl rfl rfl
def iIsValidDevice (a0 : TDevice) : Option Bool :=
  Option.bind (iIsValidUSIM a0.Card) fun r1 => Option.bind (bif !r1 then (some true) else (Option.bind (iInRange a0.State 0 3) fun r3 => bif !r3 then (some true) else (Option.bind (iInRange a0.Cell 0 5) fun r4 => some (!r4)))) fun (v2 : Bool) => bif v2 then (some false) else (Option.bind (iInRange a0.Generation 0 999999) fun r5 => Option.bind (bif !r5 then (some true) else (Option.bind (iInRange a0.Epoch 0 999999) fun r7 => bif !r7 then (some true) else (Option.bind (iInRange a0.RootKey 0 2147483646) fun r8 => some (!r8)))) fun (v6 : Bool) => bif v6 then (some false) else (Option.bind (bif eqB a0.State 2 then (Option.bind (iIsValidKey a0.RootKey) fun r10 => some (!r10)) else (bif eqB a0.State 3 then (Option.bind (iIsValidKey a0.RootKey) fun r11 => some (!r11)) else (some false))) fun (v9 : Bool) => bif v9 then (some false) else (Option.bind (iInRange a0.Wait 0 3) fun r12 => Option.bind (bif r12 then (Option.bind (iIsValidReceiver a0.Receiver) fun r14 => some r14) else (some false)) fun (v13 : Bool) => some v13)))
theorem iIsValidDevice_c {a0 : TDevice} {r : Bool} (H : iIsValidDevice a0 = some r) : Fn Tryz.prog 172 [.agg (eTDevice a0)] [.c (.d (.b r))] := by
  refine fn_in Tryz.func172 rfl (by kernel_rfl) Tryz.ntmps172 rfl rfl rfl ?_
  refine wk ?_
  obtain ⟨r1, hr1, H⟩ := ob H
  refine awr_n rfl (ca rfl rfl rfl (iIsValidUSIM_c hr1) trivial rfl rfl rfl rfl) ?_
  refine wk ?_
  obtain ⟨v2, Hj, H⟩ := ob H
  refine awr_join ⟨[(1, .v (.c (.p 0 0))), (18, tB v2)], [(0, .var 174 [.d false (.i .i64 a0.Card.ID.Network), .d false (.i .i64 a0.Card.ID.Number), .d false (.i .i64 a0.Card.Key), .d false (.i .i64 a0.Card.LastSeq), .d false (.i .i64 a0.State), .d false (.i .i64 a0.Cell), .d false (.i .i64 a0.Generation), .d false (.i .i64 a0.RootKey), .d false (.i .i64 a0.Epoch), .d false (.b a0.PathConfirmed), .d false (.i .i64 a0.Wait), .d false (.i .i64 a0.Receiver.Next), .d false (.l (a0.Receiver.Pending.map eTNumberedPacket)), .d false (.l (a0.Receiver.Delivered.map eTPayload))])], 1⟩ ?_ ?_
  · have H := Hj
    refine wk ?_
    refine g2 rfl rfl rfl (fun h => ?_) (fun h => ?_)
    · have H := bt h H
      refine wk ?_
      cases H
      exact weak_of ⟨rfl, rfl, rfl, rfl, trivial⟩ ⟨rfl, ⟨rfl, rfl⟩, trivial⟩
    · have H := bf h H
      refine wk ?_
      obtain ⟨r3, hr3, H⟩ := ob H
      refine awr_ng rfl rfl rfl rfl (ca rfl rfl rfl (iInRange_c hr3) trivial rfl rfl rfl rfl) ?_
      refine wk ?_
      refine g2 rfl rfl rfl (fun h => ?_) (fun h => ?_)
      · have H := bt h H
        refine wk ?_
        cases H
        exact weak_of ⟨rfl, rfl, rfl, rfl, trivial⟩ ⟨rfl, ⟨rfl, rfl⟩, trivial⟩
      · have H := bf h H
        refine wk ?_
        obtain ⟨r4, hr4, H⟩ := ob H
        refine awr_ng rfl rfl rfl rfl (ca rfl rfl rfl (iInRange_c hr4) trivial rfl rfl rfl rfl) ?_
        refine wk ?_
        cases H
        exact weak_of ⟨rfl, rfl, rfl, rfl, trivial⟩ ⟨rfl, ⟨rfl, rfl⟩, trivial⟩
  refine wk ?_
  refine awc_cond rfl (fun h => ?_) (fun h => ?_)
  · have H := bt h H
    refine wk ?_
    cases H
    exact fin_ret (.cons (.tmp rfl) .nil) rfl rfl rfl
  · have H := bf h H
    refine wk ?_
    obtain ⟨r5, hr5, H⟩ := ob H
    refine awr_n rfl (ca rfl rfl rfl (iInRange_c hr5) trivial rfl rfl rfl rfl) ?_
    refine wk ?_
    obtain ⟨v6, Hj, H⟩ := ob H
    refine awr_join ⟨[(1, .v (.c (.p 0 0))), (34, tB v6)], [(0, .var 174 [.d false (.i .i64 a0.Card.ID.Network), .d false (.i .i64 a0.Card.ID.Number), .d false (.i .i64 a0.Card.Key), .d false (.i .i64 a0.Card.LastSeq), .d false (.i .i64 a0.State), .d false (.i .i64 a0.Cell), .d false (.i .i64 a0.Generation), .d false (.i .i64 a0.RootKey), .d false (.i .i64 a0.Epoch), .d false (.b a0.PathConfirmed), .d false (.i .i64 a0.Wait), .d false (.i .i64 a0.Receiver.Next), .d false (.l (a0.Receiver.Pending.map eTNumberedPacket)), .d false (.l (a0.Receiver.Delivered.map eTPayload))])], 1⟩ ?_ ?_
    · have H := Hj
      refine wk ?_
      refine g2 rfl rfl rfl (fun h => ?_) (fun h => ?_)
      · have H := bt h H
        refine wk ?_
        cases H
        exact weak_of ⟨rfl, rfl, rfl, rfl, trivial⟩ ⟨rfl, ⟨rfl, rfl⟩, trivial⟩
      · have H := bf h H
        refine wk ?_
        obtain ⟨r7, hr7, H⟩ := ob H
        refine awr_ng rfl rfl rfl rfl (ca rfl rfl rfl (iInRange_c hr7) trivial rfl rfl rfl rfl) ?_
        refine wk ?_
        refine g2 rfl rfl rfl (fun h => ?_) (fun h => ?_)
        · have H := bt h H
          refine wk ?_
          cases H
          exact weak_of ⟨rfl, rfl, rfl, rfl, trivial⟩ ⟨rfl, ⟨rfl, rfl⟩, trivial⟩
        · have H := bf h H
          refine wk ?_
          obtain ⟨r8, hr8, H⟩ := ob H
          refine awr_ng rfl rfl rfl rfl (ca rfl rfl rfl (iInRange_c hr8) trivial rfl rfl rfl rfl) ?_
          refine wk ?_
          cases H
          exact weak_of ⟨rfl, rfl, rfl, rfl, trivial⟩ ⟨rfl, ⟨rfl, rfl⟩, trivial⟩
    refine wk ?_
    refine awc_cond rfl (fun h => ?_) (fun h => ?_)
    · have H := bt h H
      refine wk ?_
      cases H
      exact fin_ret (.cons (.tmp rfl) .nil) rfl rfl rfl
    · have H := bf h H
      refine wk ?_
      obtain ⟨v9, Hj, H⟩ := ob H
      refine awr_join ⟨[(1, .v (.c (.p 0 0))), (48, tB v9)], [(0, .var 174 [.d false (.i .i64 a0.Card.ID.Network), .d false (.i .i64 a0.Card.ID.Number), .d false (.i .i64 a0.Card.Key), .d false (.i .i64 a0.Card.LastSeq), .d false (.i .i64 a0.State), .d false (.i .i64 a0.Cell), .d false (.i .i64 a0.Generation), .d false (.i .i64 a0.RootKey), .d false (.i .i64 a0.Epoch), .d false (.b a0.PathConfirmed), .d false (.i .i64 a0.Wait), .d false (.i .i64 a0.Receiver.Next), .d false (.l (a0.Receiver.Pending.map eTNumberedPacket)), .d false (.l (a0.Receiver.Delivered.map eTPayload))])], 1⟩ ?_ ?_
      · have H := Hj
        refine wk ?_
        refine g2 rfl rfl rfl (fun h => ?_) (fun h => ?_)
        · have H := bt h H
          refine wk ?_
          obtain ⟨r10, hr10, H⟩ := ob H
          refine awr_ng rfl rfl rfl rfl (ca rfl rfl rfl (iIsValidKey_c hr10) trivial rfl rfl rfl rfl) ?_
          refine wk ?_
          cases H
          exact weak_of ⟨rfl, rfl, rfl, rfl, trivial⟩ ⟨rfl, ⟨rfl, rfl⟩, trivial⟩
        · have H := bf h H
          refine wk ?_
          refine g2 rfl rfl rfl (fun h => ?_) (fun h => ?_)
          · have H := bt h H
            refine wk ?_
            obtain ⟨r11, hr11, H⟩ := ob H
            refine awr_ng rfl rfl rfl rfl (ca rfl rfl rfl (iIsValidKey_c hr11) trivial rfl rfl rfl rfl) ?_
            refine wk ?_
            cases H
            exact weak_of ⟨rfl, rfl, rfl, rfl, trivial⟩ ⟨rfl, ⟨rfl, rfl⟩, trivial⟩
          · have H := bf h H
            refine wk ?_
            cases H
            exact weak_of ⟨rfl, rfl, rfl, rfl, trivial⟩ ⟨rfl, ⟨rfl, rfl⟩, trivial⟩
      refine wk ?_
      refine awc_cond rfl (fun h => ?_) (fun h => ?_)
      · have H := bt h H
        refine wk ?_
        cases H
        exact fin_ret (.cons (.tmp rfl) .nil) rfl rfl rfl
      · have H := bf h H
        refine wk ?_
        obtain ⟨r12, hr12, H⟩ := ob H
        refine awr_n rfl (ca rfl rfl rfl (iInRange_c hr12) trivial rfl rfl rfl rfl) ?_
        refine wk ?_
        obtain ⟨v13, Hj, H⟩ := ob H
        refine awr_join ⟨[(2, tB v13)], [], 0⟩ ?_ ?_
        · have H := Hj
          refine wk ?_
          refine g2 rfl rfl rfl (fun h => ?_) (fun h => ?_)
          · have H := bt h H
            refine wk ?_
            obtain ⟨r14, hr14, H⟩ := ob H
            refine awr_ng rfl rfl rfl rfl (ca rfl rfl rfl (iIsValidReceiver_c hr14) trivial rfl rfl rfl rfl) ?_
            refine wk ?_
            cases H
            exact weak_of ⟨rfl, rfl, trivial⟩ trivial
          · have H := bf h H
            refine wk ?_
            cases H
            exact weak_of ⟨rfl, rfl, trivial⟩ trivial
        refine wk ?_
        cases H
        exact fin_ret (.cons (.tmp rfl) .nil) rfl rfl rfl
def iEqualBytes (a0 : List Int) (a1 : List Int) : Option Bool :=
  Option.bind (gbytes_Equal a0 a1) fun r1 => some r1
theorem iEqualBytes_c {a0 : List Int} {a1 : List Int} {r : Bool} (H : iEqualBytes a0 a1 = some r) : Fn Tryz.prog 176 [aL (a0.map eU8), aL (a1.map eU8)] [.c (.d (.b r))] := by
  refine fn_in Tryz.func176 rfl (by kernel_rfl) Tryz.ntmps176 rfl rfl rfl ?_
  refine wk ?_
  obtain ⟨r1, hr1, H⟩ := ob H
  refine awr_n rfl (ca rfl rfl rfl (gbytes_Equal_c hr1) trivial rfl rfl rfl rfl) ?_
  refine wk ?_
  cases H
  exact fin_ret (.cons (.tmp rfl) .nil) rfl rfl rfl
def iIsValidSubscriberRecord (a0 : TSubscriberRecord) : Option Bool :=
  Option.bind (iIsValidSubscriberID a0.ID) fun r1 => Option.bind (bif r1 then (Option.bind (iIsValidKey a0.Key) fun r3 => bif r3 then (Option.bind (iInRange a0.Seq 0 999999) fun r4 => some r4) else (some false)) else (some false)) fun (v2 : Bool) => some v2
theorem iIsValidSubscriberRecord_c {a0 : TSubscriberRecord} {r : Bool} (H : iIsValidSubscriberRecord a0 = some r) : Fn Tryz.prog 217 [.agg (eTSubscriberRecord a0)] [.c (.d (.b r))] := by
  refine fn_in Tryz.func217 rfl (by kernel_rfl) Tryz.ntmps217 rfl rfl rfl ?_
  refine wk ?_
  obtain ⟨r1, hr1, H⟩ := ob H
  refine awr_n rfl (ca rfl rfl rfl (iIsValidSubscriberID_c hr1) trivial rfl rfl rfl rfl) ?_
  refine wk ?_
  obtain ⟨v2, Hj, H⟩ := ob H
  refine awr_join ⟨[(2, tB v2)], [], 0⟩ ?_ ?_
  · have H := Hj
    refine wk ?_
    refine g2 rfl rfl rfl (fun h => ?_) (fun h => ?_)
    · have H := bt h H
      refine wk ?_
      obtain ⟨r3, hr3, H⟩ := ob H
      refine awr_ng rfl rfl rfl rfl (ca rfl rfl rfl (iIsValidKey_c hr3) trivial rfl rfl rfl rfl) ?_
      refine wk ?_
      refine g2 rfl rfl rfl (fun h => ?_) (fun h => ?_)
      · have H := bt h H
        refine wk ?_
        obtain ⟨r4, hr4, H⟩ := ob H
        refine awr_ng rfl rfl rfl rfl (ca rfl rfl rfl (iInRange_c hr4) trivial rfl rfl rfl rfl) ?_
        refine wk ?_
        cases H
        exact weak_of ⟨rfl, rfl, trivial⟩ trivial
      · have H := bf h H
        refine wk ?_
        cases H
        exact weak_of ⟨rfl, rfl, trivial⟩ trivial
    · have H := bf h H
      refine wk ?_
      cases H
      exact weak_of ⟨rfl, rfl, trivial⟩ trivial
  refine wk ?_
  cases H
  exact fin_ret (.cons (.tmp rfl) .nil) rfl rfl rfl
def iIsValidSubscription_L1 (a0 : TSubscription) : Int → Option (Step (Int) (Bool))
  | v5 => bif ltB v5 ((a0.RoamingNetworks.length : Nat) : Int) then (Option.bind (ix a0.RoamingNetworks v5) fun x6 => Option.bind (iInRange x6 0 3) fun r7 => bif !r7 then (dn (some false)) else (some (.next (WR (v5 + 1))))) else (dn (Option.bind (iisAscending a0.RoamingNetworks) fun r8 => some r8))
def iIsValidSubscription (a0 : TSubscription) : Option Bool :=
  Option.bind (iInRange a0.RateLimit 1 1000) fun r1 => Option.bind (bif !r1 then (some true) else (Option.bind (iInRange a0.BestClass 1 4) fun r3 => bif !r3 then (some true) else (Option.bind (iInRange a0.GrantSize 1 100000) fun r4 => some (!r4)))) fun (v2 : Bool) => bif v2 then (some false) else (iter (iIsValidSubscription_L1 a0) FU 0)
theorem iIsValidSubscription_c {a0 : TSubscription} {r : Bool} (H : iIsValidSubscription a0 = some r) : Fn Tryz.prog 218 [.agg (eTSubscription a0)] [.c (.d (.b r))] := by
  refine fn_in Tryz.func218 rfl (by kernel_rfl) Tryz.ntmps218 rfl rfl rfl ?_
  refine wk ?_
  obtain ⟨r1, hr1, H⟩ := ob H
  refine awr_n rfl (ca rfl rfl rfl (iInRange_c hr1) trivial rfl rfl rfl rfl) ?_
  refine wk ?_
  obtain ⟨v2, Hj, H⟩ := ob H
  refine awr_join ⟨[(1, .v (.c (.p 0 0))), (20, tB v2)], [(0, .var 115 [.d false (.i .i64 a0.RateLimit), .d false (.i .i64 a0.BestClass), .d false (.i .i64 a0.GrantSize), .d false (.l (a0.RoamingNetworks.map eI))])], 1⟩ ?_ ?_
  · have H := Hj
    refine wk ?_
    refine g2 rfl rfl rfl (fun h => ?_) (fun h => ?_)
    · have H := bt h H
      refine wk ?_
      cases H
      exact weak_of ⟨rfl, rfl, rfl, rfl, trivial⟩ ⟨rfl, ⟨rfl, rfl⟩, trivial⟩
    · have H := bf h H
      refine wk ?_
      obtain ⟨r3, hr3, H⟩ := ob H
      refine awr_ng rfl rfl rfl rfl (ca rfl rfl rfl (iInRange_c hr3) trivial rfl rfl rfl rfl) ?_
      refine wk ?_
      refine g2 rfl rfl rfl (fun h => ?_) (fun h => ?_)
      · have H := bt h H
        refine wk ?_
        cases H
        exact weak_of ⟨rfl, rfl, rfl, rfl, trivial⟩ ⟨rfl, ⟨rfl, rfl⟩, trivial⟩
      · have H := bf h H
        refine wk ?_
        obtain ⟨r4, hr4, H⟩ := ob H
        refine awr_ng rfl rfl rfl rfl (ca rfl rfl rfl (iInRange_c hr4) trivial rfl rfl rfl rfl) ?_
        refine wk ?_
        cases H
        exact weak_of ⟨rfl, rfl, rfl, rfl, trivial⟩ ⟨rfl, ⟨rfl, rfl⟩, trivial⟩
  refine wk ?_
  refine awc_cond rfl (fun h => ?_) (fun h => ?_)
  · have H := bt h H
    refine wk ?_
    cases H
    exact fin_ret (.cons (.tmp rfl) .nil) rfl rfl rfl
  · have H := bf h H
    refine wk ?_
    refine awc_iter (fun (q : Int) => ⟨[(1, .v (.c (.p 0 0))), (22, .v (.c (.d false (.l (a0.RoamingNetworks.map eI))))), (23, tI ((a0.RoamingNetworks.length : Nat) : Int)), (24, tI q)], [(0, .var 115 [.d false (.i .i64 a0.RateLimit), .d false (.i .i64 a0.BestClass), .d false (.i .i64 a0.GrantSize), .d false (.l (a0.RoamingNetworks.map eI))])], 1⟩) H (weak_of ⟨rfl, rfl, rfl, rfl, rfl, rfl, rfl, rfl, trivial⟩ ⟨rfl, ⟨rfl, rfl⟩, trivial⟩) ?_
    rintro v5 o H
    try dsimp only
    refine wk ?_
    refine awc_cond rfl (fun h => ?_) (fun h => ?_)
    · have H := bt h H
      refine wk ?_
      obtain ⟨x6, hx6, H⟩ := ob H
      refine awr_n rfl (xdT (enc := eI) hx6 (fun _ => rfl) rfl rfl rfl) ?_
      refine wk ?_
      obtain ⟨r7, hr7, H⟩ := ob H
      refine awr_n rfl (ca rfl rfl rfl (iInRange_c hr7) trivial rfl rfl rfl rfl) ?_
      refine wk ?_
      refine awc_cond rfl (fun h => ?_) (fun h => ?_)
      · have H := bt h H
        refine wk ?_
        obtain ⟨r0, Hd, rfl⟩ := dnE H
        refine iq_r (fun hq => ?_)
        have H := Hd.trans (congrArg some hq)
        refine wk ?_
        cases H
        exact fin_ret (.cons (.tmp rfl) .nil) rfl rfl rfl
      · have H := bf h H
        refine wk ?_
        cases H
        refine iq_n ?_
        exact weak_of ⟨rfl, rfl, rfl, rfl, rfl, rfl, rfl, rfl, trivial⟩ ⟨rfl, ⟨rfl, rfl⟩, trivial⟩
    · have H := bf h H
      refine wk ?_
      obtain ⟨r0, Hd, rfl⟩ := dnE H
      refine iq_e (fun hq => ?_)
      have H := Hd.trans (congrArg some hq)
      refine wk ?_
      obtain ⟨r8, hr8, H⟩ := ob H
      refine awr_n rfl (ca rfl rfl rfl (iisAscending_c hr8) trivial rfl rfl rfl rfl) ?_
      refine wk ?_
      cases H
      exact fin_ret (.cons (.tmp rfl) .nil) rfl rfl rfl
def iIsValidPaging (a0 : TPagingState) : Option Bool :=
  Option.bind (iInRange a0.Area 0 2) fun r1 => Option.bind (bif r1 then (Option.bind (iInRange a0.Attempt 0 4) fun r3 => bif r3 then (Option.bind (iInRange a0.Wait 0 3) fun r4 => some r4) else (some false)) else (some false)) fun (v2 : Bool) => some v2
theorem iIsValidPaging_c {a0 : TPagingState} {r : Bool} (H : iIsValidPaging a0 = some r) : Fn Tryz.prog 219 [.agg (eTPagingState a0)] [.c (.d (.b r))] := by
  refine fn_in Tryz.func219 rfl (by kernel_rfl) Tryz.ntmps219 rfl rfl rfl ?_
  refine wk ?_
  obtain ⟨r1, hr1, H⟩ := ob H
  refine awr_n rfl (ca rfl rfl rfl (iInRange_c hr1) trivial rfl rfl rfl rfl) ?_
  refine wk ?_
  obtain ⟨v2, Hj, H⟩ := ob H
  refine awr_join ⟨[(2, tB v2)], [], 0⟩ ?_ ?_
  · have H := Hj
    refine wk ?_
    refine g2 rfl rfl rfl (fun h => ?_) (fun h => ?_)
    · have H := bt h H
      refine wk ?_
      obtain ⟨r3, hr3, H⟩ := ob H
      refine awr_ng rfl rfl rfl rfl (ca rfl rfl rfl (iInRange_c hr3) trivial rfl rfl rfl rfl) ?_
      refine wk ?_
      refine g2 rfl rfl rfl (fun h => ?_) (fun h => ?_)
      · have H := bt h H
        refine wk ?_
        obtain ⟨r4, hr4, H⟩ := ob H
        refine awr_ng rfl rfl rfl rfl (ca rfl rfl rfl (iInRange_c hr4) trivial rfl rfl rfl rfl) ?_
        refine wk ?_
        cases H
        exact weak_of ⟨rfl, rfl, trivial⟩ trivial
      · have H := bf h H
        refine wk ?_
        cases H
        exact weak_of ⟨rfl, rfl, trivial⟩ trivial
    · have H := bf h H
      refine wk ?_
      cases H
      exact weak_of ⟨rfl, rfl, trivial⟩ trivial
  refine wk ?_
  cases H
  exact fin_ret (.cons (.tmp rfl) .nil) rfl rfl rfl
def iIsValidSender_L1 (a0 : TSendWindow) : Int → Option (Step (Int) (Bool))
  | v3 => bif ltB v3 ((a0.Unacked.length : Nat) : Int) then (Option.bind (ix a0.Unacked v3) fun x4 => Option.bind (bif !eqB x4.Seq (WR ((WR (a0.Next - ((a0.Unacked.length : Nat) : Int))) + v3)) then (some true) else (some (ltB 60 ((x4.Data.length : Nat) : Int)))) fun (v5 : Bool) => bif v5 then (dn (some false)) else (some (.next (WR (v3 + 1))))) else (dn (some true))
def iIsValidSender (a0 : TSendWindow) : Option Bool :=
  Option.bind (iInRange a0.Next 1 100000) fun r1 => Option.bind (bif !r1 then (some true) else (some (ltB 8 ((a0.Unacked.length : Nat) : Int)))) fun (v2 : Bool) => bif v2 then (some false) else (bif ltB (WR (a0.Next - ((a0.Unacked.length : Nat) : Int))) 1 then (some false) else (iter (iIsValidSender_L1 a0) FU 0))
theorem iIsValidSender_c {a0 : TSendWindow} {r : Bool} (H : iIsValidSender a0 = some r) : Fn Tryz.prog 220 [.agg (eTSendWindow a0)] [.c (.d (.b r))] := by
  refine fn_in Tryz.func220 rfl (by kernel_rfl) Tryz.ntmps220 rfl rfl rfl ?_
  refine wk ?_
  obtain ⟨r1, hr1, H⟩ := ob H
  refine awr_n rfl (ca rfl rfl rfl (iInRange_c hr1) trivial rfl rfl rfl rfl) ?_
  refine wk ?_
  obtain ⟨v2, Hj, H⟩ := ob H
  refine awr_join ⟨[(1, .v (.c (.p 0 0))), (15, tB v2)], [(0, .var 121 [.d false (.i .i64 a0.Next), .d false (.l (a0.Unacked.map eTNumberedPacket))])], 1⟩ ?_ ?_
  · have H := Hj
    refine wk ?_
    refine g2 rfl rfl rfl (fun h => ?_) (fun h => ?_)
    · have H := bt h H
      refine wk ?_
      cases H
      exact weak_of ⟨rfl, rfl, rfl, rfl, trivial⟩ ⟨rfl, ⟨rfl, rfl⟩, trivial⟩
    · have H := bf h H
      refine wk ?_
      cases H
      exact weak_of ⟨rfl, rfl, rfl, rfl, trivial⟩ ⟨rfl, ⟨rfl, rfl⟩, trivial⟩
  refine wk ?_
  refine awc_cond rfl (fun h => ?_) (fun h => ?_)
  · have H := bt h H
    refine wk ?_
    cases H
    exact fin_ret (.cons (.tmp rfl) .nil) rfl rfl rfl
  · have H := bf h H
    refine wk ?_
    refine awc_cond rfl (fun h => ?_) (fun h => ?_)
    · have H := bt h H
      refine wk ?_
      cases H
      exact fin_ret (.cons (.tmp rfl) .nil) rfl rfl rfl
    · have H := bf h H
      refine wk ?_
      refine awc_iter (fun (q : Int) => ⟨[(3, tI (WR (a0.Next - ((a0.Unacked.length : Nat) : Int)))), (25, .v (.c (.d false (.l (a0.Unacked.map eTNumberedPacket))))), (26, tI ((a0.Unacked.length : Nat) : Int)), (27, tI q)], [], 0⟩) H (weak_of ⟨rfl, rfl, rfl, rfl, rfl, rfl, rfl, rfl, trivial⟩ trivial) ?_
      rintro v3 o H
      try dsimp only
      refine wk ?_
      refine awc_cond rfl (fun h => ?_) (fun h => ?_)
      · have H := bt h H
        refine wk ?_
        obtain ⟨x4, hx4, H⟩ := ob H
        refine awr_n rfl (xdT (enc := eTNumberedPacket) hx4 (fun _ => rfl) rfl rfl rfl) ?_
        refine wk ?_
        obtain ⟨v5, Hj, H⟩ := ob H
        refine awr_join ⟨[(3, tI (WR (a0.Next - ((a0.Unacked.length : Nat) : Int)))), (25, .v (.c (.d false (.l (a0.Unacked.map eTNumberedPacket))))), (26, tI ((a0.Unacked.length : Nat) : Int)), (27, tI v3), (43, tB v5)], [], 0⟩ ?_ ?_
        · have H := Hj
          refine wk ?_
          refine g2 rfl rfl rfl (fun h => ?_) (fun h => ?_)
          · have H := bt h H
            refine wk ?_
            cases H
            exact weak_of ⟨rfl, rfl, rfl, rfl, rfl, rfl, rfl, rfl, rfl, rfl, trivial⟩ trivial
          · have H := bf h H
            refine wk ?_
            cases H
            exact weak_of ⟨rfl, rfl, rfl, rfl, rfl, rfl, rfl, rfl, rfl, rfl, trivial⟩ trivial
        refine wk ?_
        refine awc_cond rfl (fun h => ?_) (fun h => ?_)
        · have H := bt h H
          refine wk ?_
          obtain ⟨r0, Hd, rfl⟩ := dnE H
          refine iq_r (fun hq => ?_)
          have H := Hd.trans (congrArg some hq)
          refine wk ?_
          cases H
          exact fin_ret (.cons (.tmp rfl) .nil) rfl rfl rfl
        · have H := bf h H
          refine wk ?_
          cases H
          refine iq_n ?_
          exact weak_of ⟨rfl, rfl, rfl, rfl, rfl, rfl, rfl, rfl, trivial⟩ trivial
      · have H := bf h H
        refine wk ?_
        obtain ⟨r0, Hd, rfl⟩ := dnE H
        refine iq_e (fun hq => ?_)
        have H := Hd.trans (congrArg some hq)
        refine wk ?_
        cases H
        exact fin_ret (.cons (.tmp rfl) .nil) rfl rfl rfl
def iIsValidQuota (a0 : TQuota) : Option Bool :=
  Option.bind (bif leB 0 a0.SessionID then (bif leB 0 a0.Used then (bif leB a0.Used a0.Granted then (some (leB a0.Granted 100000)) else (some false)) else (some false)) else (some false)) fun (v1 : Bool) => some v1
theorem iIsValidQuota_c {a0 : TQuota} {r : Bool} (H : iIsValidQuota a0 = some r) : Fn Tryz.prog 221 [.agg (eTQuota a0)] [.c (.d (.b r))] := by
  refine fn_in Tryz.func221 rfl (by kernel_rfl) Tryz.ntmps221 rfl rfl rfl ?_
  refine wk ?_
  obtain ⟨v1, Hj, H⟩ := ob H
  refine awr_join ⟨[(2, tB v1)], [], 0⟩ ?_ ?_
  · have H := Hj
    refine wk ?_
    refine g2 rfl rfl rfl (fun h => ?_) (fun h => ?_)
    · have H := bt h H
      refine wk ?_
      refine g2 rfl rfl rfl (fun h => ?_) (fun h => ?_)
      · have H := bt h H
        refine wk ?_
        refine g2 rfl rfl rfl (fun h => ?_) (fun h => ?_)
        · have H := bt h H
          refine wk ?_
          cases H
          exact weak_of ⟨rfl, rfl, trivial⟩ trivial
        · have H := bf h H
          refine wk ?_
          cases H
          exact weak_of ⟨rfl, rfl, trivial⟩ trivial
      · have H := bf h H
        refine wk ?_
        cases H
        exact weak_of ⟨rfl, rfl, trivial⟩ trivial
    · have H := bf h H
      refine wk ?_
      cases H
      exact weak_of ⟨rfl, rfl, trivial⟩ trivial
  refine wk ?_
  cases H
  exact fin_ret (.cons (.tmp rfl) .nil) rfl rfl rfl
def inumberedBytes_L1 (a0 : List TNumberedPacket) : (Int × Int) → Option (Step (Int × Int) (Int))
  | (v1, v2) => bif ltB v2 ((a0.length : Nat) : Int) then (Option.bind (ix a0 v2) fun x5 => some (.next (WR (v1 + ((x5.Data.length : Nat) : Int)), WR (v2 + 1)))) else (some (.done v1))
def inumberedBytes (a0 : List TNumberedPacket) : Option Int :=
  Option.bind (iter (inumberedBytes_L1 a0) FU (0, 0)) fun (v4 : Int) => some v4
theorem inumberedBytes_c {a0 : List TNumberedPacket} {r : Int} (H : inumberedBytes a0 = some r) : Fn Tryz.prog 245 [aL (a0.map eTNumberedPacket)] [.c (.d (.i .i64 r))] := by
  refine fn_in Tryz.func245 rfl (by kernel_rfl) Tryz.ntmps245 rfl rfl rfl ?_
  refine wk ?_
  obtain ⟨v4, Hj, H⟩ := ob H
  refine awc_jblk ⟨[(3, tI v4)], [], 0⟩ ?_ ?_
  · refine wk ?_
    refine awc_iter (fun (q : Int × Int) => ⟨[(3, tI q.1), (6, .v (.c (.d false (.l (a0.map eTNumberedPacket))))), (7, tI ((a0.length : Nat) : Int)), (8, tI q.2)], [], 0⟩) Hj (weak_of ⟨rfl, rfl, rfl, rfl, rfl, rfl, rfl, rfl, trivial⟩ trivial) ?_
    rintro ⟨v1, v2⟩ o H
    try dsimp only
    refine wk ?_
    refine awc_cond rfl (fun h => ?_) (fun h => ?_)
    · have H := bt h H
      refine wk ?_
      obtain ⟨x5, hx5, H⟩ := ob H
      refine awr_n rfl (xdT (enc := eTNumberedPacket) hx5 (fun _ => rfl) rfl rfl rfl) ?_
      refine wk ?_
      cases H
      refine iq_n ?_
      exact weak_of ⟨rfl, rfl, rfl, rfl, rfl, rfl, rfl, rfl, trivial⟩ trivial
    · have H := bf h H
      refine wk ?_
      cases H
      refine iq_e (fun hq => ?_)
      cases hq
      refine wk ?_
      exact weak_of ⟨rfl, rfl, trivial⟩ trivial
  refine wk ?_
  cases H
  exact fin_ret (.cons (.tmp rfl) .nil) rfl rfl rfl
def iOutstandingBytes (a0 : TSession) : Option Int :=
  Option.bind (inumberedBytes a0.Window.Unacked) fun r1 => some r1
theorem iOutstandingBytes_c {a0 : TSession} {r : Int} (H : iOutstandingBytes a0 = some r) : Fn Tryz.prog 223 [.agg (eTSession a0)] [.c (.d (.i .i64 r))] := by
  refine fn_in Tryz.func223 rfl (by kernel_rfl) Tryz.ntmps223 rfl rfl rfl ?_
  refine wk ?_
  obtain ⟨r1, hr1, H⟩ := ob H
  refine awr_n rfl (ca rfl rfl rfl (inumberedBytes_c hr1) trivial rfl rfl rfl rfl) ?_
  refine wk ?_
  cases H
  exact fin_ret (.cons (.tmp rfl) .nil) rfl rfl rfl
def iRemainingQuota (a0 : TQuota) : Option Int :=
  Option.bind (iIsValidQuota a0) fun r1 => bif !r1 then (some 0) else (some (WR (a0.Granted - a0.Used)))
theorem iRemainingQuota_c {a0 : TQuota} {r : Int} (H : iRemainingQuota a0 = some r) : Fn Tryz.prog 224 [.agg (eTQuota a0)] [.c (.d (.i .i64 r))] := by
  refine fn_in Tryz.func224 rfl (by kernel_rfl) Tryz.ntmps224 rfl rfl rfl ?_
  refine wk ?_
  obtain ⟨r1, hr1, H⟩ := ob H
  refine awr_n rfl (ca rfl rfl rfl (iIsValidQuota_c hr1) trivial rfl rfl rfl rfl) ?_
  refine wk ?_
  refine awc_cond rfl (fun h => ?_) (fun h => ?_)
  · have H := bt h H
    refine wk ?_
    cases H
    exact fin_ret (.cons (.tmp rfl) .nil) rfl rfl rfl
  · have H := bf h H
    refine wk ?_
    cases H
    exact fin_ret (.cons (.tmp rfl) .nil) rfl rfl rfl
def iIsValidSession_L1 (a0 : TSession) : Int → Option (Step (Int) (Bool))
  | v23 => bif ltB v23 ((a0.Window.Unacked.length : Nat) : Int) then (Option.bind (ix a0.Window.Unacked v23) fun x24 => Option.bind (ix a0.Submitted (WR (x24.Seq - 1))) fun x25 => Option.bind (iEqualBytes x24.Data x25.Data) fun r26 => bif !r26 then (dn (some false)) else (some (.next (WR (v23 + 1))))) else (dn (Option.bind (iOutstandingBytes a0) fun r27 => Option.bind (iRemainingQuota a0.Usage) fun r28 => some (leB r27 r28)))
def iIsValidSession (a0 : TSession) : Option Bool :=
  Option.bind (iIsValidSubscriberRecord a0.Record) fun r1 => Option.bind (bif !r1 then (some true) else (Option.bind (iIsValidSubscription a0.Plan) fun r3 => bif !r3 then (some true) else (Option.bind (iIsValidPaging a0.Page) fun r4 => bif !r4 then (some true) else (Option.bind (iIsValidSender a0.Window) fun r5 => bif !r5 then (some true) else (Option.bind (iIsValidQuota a0.Usage) fun r6 => some (!r6)))))) fun (v2 : Bool) => bif v2 then (some false) else (Option.bind (bif !eqB a0.State 0 then (some (!eqB a0.State 1)) else (some false)) fun (v7 : Bool) => bif v7 then (some false) else (Option.bind (bif eqB a0.State 1 then (Option.bind (iIsValidKey a0.RootKey) fun r9 => bif !r9 then (some true) else (bif ltB 0 a0.PendingSeq then (Option.bind (iIsValidKey a0.Pending.Key) fun r10 => some (!r10)) else (some false))) else (bif ltB 0 a0.PendingSeq then (Option.bind (iIsValidKey a0.Pending.Key) fun r11 => some (!r11)) else (some false))) fun (v8 : Bool) => bif v8 then (some false) else (Option.bind (iInRange a0.PendingSeq 0 999999) fun r12 => Option.bind (bif !r12 then (some true) else (Option.bind (iInRange a0.Generation 0 999999) fun r14 => bif !r14 then (some true) else (Option.bind (iInRange a0.Epoch 0 999999) fun r15 => bif !r15 then (some true) else (Option.bind (iInRange a0.RootKey 0 2147483646) fun r16 => some (!r16))))) fun (v13 : Bool) => bif v13 then (some false) else (Option.bind (iInRange a0.Cell 0 5) fun r17 => Option.bind (bif !r17 then (some true) else (Option.bind (iInRange a0.Quiet 0 5) fun r19 => bif !r19 then (some true) else (Option.bind (iInRange a0.Retry 0 3) fun r20 => some (!r20)))) fun (v18 : Bool) => bif v18 then (some false) else (Option.bind (bif ltB 24 ((a0.Submitted.length : Nat) : Int) then (some true) else (Option.bind (ifitPayload a0.Submitted) fun r22 => bif !r22 then (some true) else (some (ltB (WR (((a0.Submitted.length : Nat) : Int) + 1)) a0.Window.Next)))) fun (v21 : Bool) => bif v21 then (some false) else (iter (iIsValidSession_L1 a0) FU 0))))))
theorem iIsValidSession_c {a0 : TSession} {r : Bool} (H : iIsValidSession a0 = some r) : Fn Tryz.prog 173 [.agg (eTSession a0)] [.c (.d (.b r))] := by
  refine fn_in Tryz.func173 rfl (by kernel_rfl) Tryz.ntmps173 rfl rfl rfl ?_
  refine wkd ?_
  obtain ⟨r1, hr1, H⟩ := ob H
  refine awr_n rfl (ca rfl rfl rfl (iIsValidSubscriberRecord_c hr1) trivial rfl rfl rfl rfl) ?_
  refine wkd ?_
  obtain ⟨v2, Hj, H⟩ := ob H
  refine awr_join ⟨[(1, .v (.c (.p 0 0))), (32, tB v2)], [(0, .var 125 [.d false (.i .i64 a0.Record.ID.Network), .d false (.i .i64 a0.Record.ID.Number), .d false (.i .i64 a0.Record.Key), .d false (.i .i64 a0.Record.Seq), .d false (.i .i64 a0.Plan.RateLimit), .d false (.i .i64 a0.Plan.BestClass), .d false (.i .i64 a0.Plan.GrantSize), .d false (.l (a0.Plan.RoamingNetworks.map eI)), .d false (.i .i64 a0.State), .d false (.i .i64 a0.Pending.Rand), .d false (.i .i64 a0.Pending.Autn), .d false (.i .i64 a0.Pending.MAC), .d false (.i .i64 a0.Pending.Res), .d false (.i .i64 a0.Pending.Key), .d false (.i .i64 a0.PendingSeq), .d false (.i .i64 a0.Generation), .d false (.i .i64 a0.RootKey), .d false (.i .i64 a0.Epoch), .d false (.i .i64 a0.Cell), .d false (.i .i64 a0.Quiet), .d false (.i .i64 a0.Page.Area), .d false (.i .i64 a0.Page.Attempt), .d false (.i .i64 a0.Page.Wait), .d false (.l (a0.Submitted.map eTPayload)), .d false (.i .i64 a0.Window.Next), .d false (.l (a0.Window.Unacked.map eTNumberedPacket)), .d false (.i .i64 a0.Retry), .d false (.i .i64 a0.Usage.SessionID), .d false (.i .i64 a0.Usage.Granted), .d false (.i .i64 a0.Usage.Used)])], 1⟩ ?_ ?_
  · have H := Hj
    refine wkd ?_
    refine g2 rfl rfl rfl (fun h => ?_) (fun h => ?_)
    · have H := bt h H
      refine wkd ?_
      cases H
      exact weak_of ⟨rfl, rfl, rfl, rfl, trivial⟩ ⟨rfl, ⟨rfl, rfl⟩, trivial⟩
    · have H := bf h H
      refine wkd ?_
      obtain ⟨r3, hr3, H⟩ := ob H
      refine awr_ng rfl rfl rfl rfl (ca rfl rfl rfl (iIsValidSubscription_c hr3) trivial rfl rfl rfl rfl) ?_
      refine wkd ?_
      refine g2 rfl rfl rfl (fun h => ?_) (fun h => ?_)
      · have H := bt h H
        refine wkd ?_
        cases H
        exact weak_of ⟨rfl, rfl, rfl, rfl, trivial⟩ ⟨rfl, ⟨rfl, rfl⟩, trivial⟩
      · have H := bf h H
        refine wkd ?_
        obtain ⟨r4, hr4, H⟩ := ob H
        refine awr_ng rfl rfl rfl rfl (ca rfl rfl rfl (iIsValidPaging_c hr4) trivial rfl rfl rfl rfl) ?_
        refine wkd ?_
        refine g2 rfl rfl rfl (fun h => ?_) (fun h => ?_)
        · have H := bt h H
          refine wkd ?_
          cases H
          exact weak_of ⟨rfl, rfl, rfl, rfl, trivial⟩ ⟨rfl, ⟨rfl, rfl⟩, trivial⟩
        · have H := bf h H
          refine wkd ?_
          obtain ⟨r5, hr5, H⟩ := ob H
          refine awr_ng rfl rfl rfl rfl (ca rfl rfl rfl (iIsValidSender_c hr5) trivial rfl rfl rfl rfl) ?_
          refine wkd ?_
          refine g2 rfl rfl rfl (fun h => ?_) (fun h => ?_)
          · have H := bt h H
            refine wkd ?_
            cases H
            exact weak_of ⟨rfl, rfl, rfl, rfl, trivial⟩ ⟨rfl, ⟨rfl, rfl⟩, trivial⟩
          · have H := bf h H
            refine wkd ?_
            obtain ⟨r6, hr6, H⟩ := ob H
            refine awr_ng rfl rfl rfl rfl (ca rfl rfl rfl (iIsValidQuota_c hr6) trivial rfl rfl rfl rfl) ?_
            refine wkd ?_
            cases H
            exact weak_of ⟨rfl, rfl, rfl, rfl, trivial⟩ ⟨rfl, ⟨rfl, rfl⟩, trivial⟩
  refine wkd ?_
  refine awc_cond rfl (fun h => ?_) (fun h => ?_)
  · have H := bt h H
    refine wkd ?_
    cases H
    exact fin_ret (.cons (.tmp rfl) .nil) rfl rfl rfl
  · have H := bf h H
    refine wkd ?_
    obtain ⟨v7, Hj, H⟩ := ob H
    refine awr_join ⟨[(1, .v (.c (.p 0 0))), (40, tB v7)], [(0, .var 125 [.d false (.i .i64 a0.Record.ID.Network), .d false (.i .i64 a0.Record.ID.Number), .d false (.i .i64 a0.Record.Key), .d false (.i .i64 a0.Record.Seq), .d false (.i .i64 a0.Plan.RateLimit), .d false (.i .i64 a0.Plan.BestClass), .d false (.i .i64 a0.Plan.GrantSize), .d false (.l (a0.Plan.RoamingNetworks.map eI)), .d false (.i .i64 a0.State), .d false (.i .i64 a0.Pending.Rand), .d false (.i .i64 a0.Pending.Autn), .d false (.i .i64 a0.Pending.MAC), .d false (.i .i64 a0.Pending.Res), .d false (.i .i64 a0.Pending.Key), .d false (.i .i64 a0.PendingSeq), .d false (.i .i64 a0.Generation), .d false (.i .i64 a0.RootKey), .d false (.i .i64 a0.Epoch), .d false (.i .i64 a0.Cell), .d false (.i .i64 a0.Quiet), .d false (.i .i64 a0.Page.Area), .d false (.i .i64 a0.Page.Attempt), .d false (.i .i64 a0.Page.Wait), .d false (.l (a0.Submitted.map eTPayload)), .d false (.i .i64 a0.Window.Next), .d false (.l (a0.Window.Unacked.map eTNumberedPacket)), .d false (.i .i64 a0.Retry), .d false (.i .i64 a0.Usage.SessionID), .d false (.i .i64 a0.Usage.Granted), .d false (.i .i64 a0.Usage.Used)])], 1⟩ ?_ ?_
    · have H := Hj
      refine wkd ?_
      refine g2 rfl rfl rfl (fun h => ?_) (fun h => ?_)
      · have H := bt h H
        refine wkd ?_
        cases H
        exact weak_of ⟨rfl, rfl, rfl, rfl, trivial⟩ ⟨rfl, ⟨rfl, rfl⟩, trivial⟩
      · have H := bf h H
        refine wkd ?_
        cases H
        exact weak_of ⟨rfl, rfl, rfl, rfl, trivial⟩ ⟨rfl, ⟨rfl, rfl⟩, trivial⟩
    refine wkd ?_
    refine awc_cond rfl (fun h => ?_) (fun h => ?_)
    · have H := bt h H
      refine wkd ?_
      cases H
      exact fin_ret (.cons (.tmp rfl) .nil) rfl rfl rfl
    · have H := bf h H
      refine wkd ?_
      obtain ⟨v8, Hj, H⟩ := ob H
      refine awr_join ⟨[(1, .v (.c (.p 0 0))), (61, tB v8)], [(0, .var 125 [.d false (.i .i64 a0.Record.ID.Network), .d false (.i .i64 a0.Record.ID.Number), .d false (.i .i64 a0.Record.Key), .d false (.i .i64 a0.Record.Seq), .d false (.i .i64 a0.Plan.RateLimit), .d false (.i .i64 a0.Plan.BestClass), .d false (.i .i64 a0.Plan.GrantSize), .d false (.l (a0.Plan.RoamingNetworks.map eI)), .d false (.i .i64 a0.State), .d false (.i .i64 a0.Pending.Rand), .d false (.i .i64 a0.Pending.Autn), .d false (.i .i64 a0.Pending.MAC), .d false (.i .i64 a0.Pending.Res), .d false (.i .i64 a0.Pending.Key), .d false (.i .i64 a0.PendingSeq), .d false (.i .i64 a0.Generation), .d false (.i .i64 a0.RootKey), .d false (.i .i64 a0.Epoch), .d false (.i .i64 a0.Cell), .d false (.i .i64 a0.Quiet), .d false (.i .i64 a0.Page.Area), .d false (.i .i64 a0.Page.Attempt), .d false (.i .i64 a0.Page.Wait), .d false (.l (a0.Submitted.map eTPayload)), .d false (.i .i64 a0.Window.Next), .d false (.l (a0.Window.Unacked.map eTNumberedPacket)), .d false (.i .i64 a0.Retry), .d false (.i .i64 a0.Usage.SessionID), .d false (.i .i64 a0.Usage.Granted), .d false (.i .i64 a0.Usage.Used)])], 1⟩ ?_ ?_
      · have H := Hj
        refine wkd ?_
        refine g2 rfl rfl rfl (fun h => ?_) (fun h => ?_)
        · have H := bt h H
          refine wkd ?_
          obtain ⟨r9, hr9, H⟩ := ob H
          refine awr_ng rfl rfl rfl rfl (ca rfl rfl rfl (iIsValidKey_c hr9) trivial rfl rfl rfl rfl) ?_
          refine wkd ?_
          refine g2 rfl rfl rfl (fun h => ?_) (fun h => ?_)
          · have H := bt h H
            refine wkd ?_
            cases H
            exact weak_of ⟨rfl, rfl, rfl, rfl, trivial⟩ ⟨rfl, ⟨rfl, rfl⟩, trivial⟩
          · have H := bf h H
            refine wkd ?_
            refine g2 rfl rfl rfl (fun h => ?_) (fun h => ?_)
            · have H := bt h H
              refine wkd ?_
              obtain ⟨r10, hr10, H⟩ := ob H
              refine awr_ng rfl rfl rfl rfl (ca rfl rfl rfl (iIsValidKey_c hr10) trivial rfl rfl rfl rfl) ?_
              refine wkd ?_
              cases H
              exact weak_of ⟨rfl, rfl, rfl, rfl, trivial⟩ ⟨rfl, ⟨rfl, rfl⟩, trivial⟩
            · have H := bf h H
              refine wkd ?_
              cases H
              exact weak_of ⟨rfl, rfl, rfl, rfl, trivial⟩ ⟨rfl, ⟨rfl, rfl⟩, trivial⟩
        · have H := bf h H
          refine wkd ?_
          refine g2 rfl rfl rfl (fun h => ?_) (fun h => ?_)
          · have H := bt h H
            refine wkd ?_
            obtain ⟨r11, hr11, H⟩ := ob H
            refine awr_ng rfl rfl rfl rfl (ca rfl rfl rfl (iIsValidKey_c hr11) trivial rfl rfl rfl rfl) ?_
            refine wkd ?_
            cases H
            exact weak_of ⟨rfl, rfl, rfl, rfl, trivial⟩ ⟨rfl, ⟨rfl, rfl⟩, trivial⟩
          · have H := bf h H
            refine wkd ?_
            cases H
            exact weak_of ⟨rfl, rfl, rfl, rfl, trivial⟩ ⟨rfl, ⟨rfl, rfl⟩, trivial⟩
      refine wkd ?_
      refine awc_cond rfl (fun h => ?_) (fun h => ?_)
      · have H := bt h H
        refine wkd ?_
        cases H
        exact fin_ret (.cons (.tmp rfl) .nil) rfl rfl rfl
      · have H := bf h H
        refine wkd ?_
        obtain ⟨r12, hr12, H⟩ := ob H
        refine awr_n rfl (ca rfl rfl rfl (iInRange_c hr12) trivial rfl rfl rfl rfl) ?_
        refine wkd ?_
        obtain ⟨v13, Hj, H⟩ := ob H
        refine awr_join ⟨[(1, .v (.c (.p 0 0))), (83, tB v13)], [(0, .var 125 [.d false (.i .i64 a0.Record.ID.Network), .d false (.i .i64 a0.Record.ID.Number), .d false (.i .i64 a0.Record.Key), .d false (.i .i64 a0.Record.Seq), .d false (.i .i64 a0.Plan.RateLimit), .d false (.i .i64 a0.Plan.BestClass), .d false (.i .i64 a0.Plan.GrantSize), .d false (.l (a0.Plan.RoamingNetworks.map eI)), .d false (.i .i64 a0.State), .d false (.i .i64 a0.Pending.Rand), .d false (.i .i64 a0.Pending.Autn), .d false (.i .i64 a0.Pending.MAC), .d false (.i .i64 a0.Pending.Res), .d false (.i .i64 a0.Pending.Key), .d false (.i .i64 a0.PendingSeq), .d false (.i .i64 a0.Generation), .d false (.i .i64 a0.RootKey), .d false (.i .i64 a0.Epoch), .d false (.i .i64 a0.Cell), .d false (.i .i64 a0.Quiet), .d false (.i .i64 a0.Page.Area), .d false (.i .i64 a0.Page.Attempt), .d false (.i .i64 a0.Page.Wait), .d false (.l (a0.Submitted.map eTPayload)), .d false (.i .i64 a0.Window.Next), .d false (.l (a0.Window.Unacked.map eTNumberedPacket)), .d false (.i .i64 a0.Retry), .d false (.i .i64 a0.Usage.SessionID), .d false (.i .i64 a0.Usage.Granted), .d false (.i .i64 a0.Usage.Used)])], 1⟩ ?_ ?_
        · have H := Hj
          refine wkd ?_
          refine g2 rfl rfl rfl (fun h => ?_) (fun h => ?_)
          · have H := bt h H
            refine wkd ?_
            cases H
            exact weak_of ⟨rfl, rfl, rfl, rfl, trivial⟩ ⟨rfl, ⟨rfl, rfl⟩, trivial⟩
          · have H := bf h H
            refine wkd ?_
            obtain ⟨r14, hr14, H⟩ := ob H
            refine awr_ng rfl rfl rfl rfl (ca rfl rfl rfl (iInRange_c hr14) trivial rfl rfl rfl rfl) ?_
            refine wkd ?_
            refine g2 rfl rfl rfl (fun h => ?_) (fun h => ?_)
            · have H := bt h H
              refine wkd ?_
              cases H
              exact weak_of ⟨rfl, rfl, rfl, rfl, trivial⟩ ⟨rfl, ⟨rfl, rfl⟩, trivial⟩
            · have H := bf h H
              refine wkd ?_
              obtain ⟨r15, hr15, H⟩ := ob H
              refine awr_ng rfl rfl rfl rfl (ca rfl rfl rfl (iInRange_c hr15) trivial rfl rfl rfl rfl) ?_
              refine wkd ?_
              refine g2 rfl rfl rfl (fun h => ?_) (fun h => ?_)
              · have H := bt h H
                refine wkd ?_
                cases H
                exact weak_of ⟨rfl, rfl, rfl, rfl, trivial⟩ ⟨rfl, ⟨rfl, rfl⟩, trivial⟩
              · have H := bf h H
                refine wkd ?_
                obtain ⟨r16, hr16, H⟩ := ob H
                refine awr_ng rfl rfl rfl rfl (ca rfl rfl rfl (iInRange_c hr16) trivial rfl rfl rfl rfl) ?_
                refine wkd ?_
                cases H
                exact weak_of ⟨rfl, rfl, rfl, rfl, trivial⟩ ⟨rfl, ⟨rfl, rfl⟩, trivial⟩
        refine wkd ?_
        refine awc_cond rfl (fun h => ?_) (fun h => ?_)
        · have H := bt h H
          refine wkd ?_
          cases H
          exact fin_ret (.cons (.tmp rfl) .nil) rfl rfl rfl
        · have H := bf h H
          refine wkd ?_
          obtain ⟨r17, hr17, H⟩ := ob H
          refine awr_n rfl (ca rfl rfl rfl (iInRange_c hr17) trivial rfl rfl rfl rfl) ?_
          refine wkd ?_
          obtain ⟨v18, Hj, H⟩ := ob H
          refine awr_join ⟨[(1, .v (.c (.p 0 0))), (99, tB v18)], [(0, .var 125 [.d false (.i .i64 a0.Record.ID.Network), .d false (.i .i64 a0.Record.ID.Number), .d false (.i .i64 a0.Record.Key), .d false (.i .i64 a0.Record.Seq), .d false (.i .i64 a0.Plan.RateLimit), .d false (.i .i64 a0.Plan.BestClass), .d false (.i .i64 a0.Plan.GrantSize), .d false (.l (a0.Plan.RoamingNetworks.map eI)), .d false (.i .i64 a0.State), .d false (.i .i64 a0.Pending.Rand), .d false (.i .i64 a0.Pending.Autn), .d false (.i .i64 a0.Pending.MAC), .d false (.i .i64 a0.Pending.Res), .d false (.i .i64 a0.Pending.Key), .d false (.i .i64 a0.PendingSeq), .d false (.i .i64 a0.Generation), .d false (.i .i64 a0.RootKey), .d false (.i .i64 a0.Epoch), .d false (.i .i64 a0.Cell), .d false (.i .i64 a0.Quiet), .d false (.i .i64 a0.Page.Area), .d false (.i .i64 a0.Page.Attempt), .d false (.i .i64 a0.Page.Wait), .d false (.l (a0.Submitted.map eTPayload)), .d false (.i .i64 a0.Window.Next), .d false (.l (a0.Window.Unacked.map eTNumberedPacket)), .d false (.i .i64 a0.Retry), .d false (.i .i64 a0.Usage.SessionID), .d false (.i .i64 a0.Usage.Granted), .d false (.i .i64 a0.Usage.Used)])], 1⟩ ?_ ?_
          · have H := Hj
            refine wkd ?_
            refine g2 rfl rfl rfl (fun h => ?_) (fun h => ?_)
            · have H := bt h H
              refine wkd ?_
              cases H
              exact weak_of ⟨rfl, rfl, rfl, rfl, trivial⟩ ⟨rfl, ⟨rfl, rfl⟩, trivial⟩
            · have H := bf h H
              refine wkd ?_
              obtain ⟨r19, hr19, H⟩ := ob H
              refine awr_ng rfl rfl rfl rfl (ca rfl rfl rfl (iInRange_c hr19) trivial rfl rfl rfl rfl) ?_
              refine wkd ?_
              refine g2 rfl rfl rfl (fun h => ?_) (fun h => ?_)
              · have H := bt h H
                refine wkd ?_
                cases H
                exact weak_of ⟨rfl, rfl, rfl, rfl, trivial⟩ ⟨rfl, ⟨rfl, rfl⟩, trivial⟩
              · have H := bf h H
                refine wkd ?_
                obtain ⟨r20, hr20, H⟩ := ob H
                refine awr_ng rfl rfl rfl rfl (ca rfl rfl rfl (iInRange_c hr20) trivial rfl rfl rfl rfl) ?_
                refine wkd ?_
                cases H
                exact weak_of ⟨rfl, rfl, rfl, rfl, trivial⟩ ⟨rfl, ⟨rfl, rfl⟩, trivial⟩
          refine wkd ?_
          refine awc_cond rfl (fun h => ?_) (fun h => ?_)
          · have H := bt h H
            refine wkd ?_
            cases H
            exact fin_ret (.cons (.tmp rfl) .nil) rfl rfl rfl
          · have H := bf h H
            refine wkd ?_
            obtain ⟨v21, Hj, H⟩ := ob H
            refine awr_join ⟨[(1, .v (.c (.p 0 0))), (119, tB v21)], [(0, .var 125 [.d false (.i .i64 a0.Record.ID.Network), .d false (.i .i64 a0.Record.ID.Number), .d false (.i .i64 a0.Record.Key), .d false (.i .i64 a0.Record.Seq), .d false (.i .i64 a0.Plan.RateLimit), .d false (.i .i64 a0.Plan.BestClass), .d false (.i .i64 a0.Plan.GrantSize), .d false (.l (a0.Plan.RoamingNetworks.map eI)), .d false (.i .i64 a0.State), .d false (.i .i64 a0.Pending.Rand), .d false (.i .i64 a0.Pending.Autn), .d false (.i .i64 a0.Pending.MAC), .d false (.i .i64 a0.Pending.Res), .d false (.i .i64 a0.Pending.Key), .d false (.i .i64 a0.PendingSeq), .d false (.i .i64 a0.Generation), .d false (.i .i64 a0.RootKey), .d false (.i .i64 a0.Epoch), .d false (.i .i64 a0.Cell), .d false (.i .i64 a0.Quiet), .d false (.i .i64 a0.Page.Area), .d false (.i .i64 a0.Page.Attempt), .d false (.i .i64 a0.Page.Wait), .d false (.l (a0.Submitted.map eTPayload)), .d false (.i .i64 a0.Window.Next), .d false (.l (a0.Window.Unacked.map eTNumberedPacket)), .d false (.i .i64 a0.Retry), .d false (.i .i64 a0.Usage.SessionID), .d false (.i .i64 a0.Usage.Granted), .d false (.i .i64 a0.Usage.Used)])], 1⟩ ?_ ?_
            · have H := Hj
              refine wkd ?_
              refine g2 rfl rfl rfl (fun h => ?_) (fun h => ?_)
              · have H := bt h H
                refine wkd ?_
                cases H
                exact weak_of ⟨rfl, rfl, rfl, rfl, trivial⟩ ⟨rfl, ⟨rfl, rfl⟩, trivial⟩
              · have H := bf h H
                refine wkd ?_
                obtain ⟨r22, hr22, H⟩ := ob H
                refine awr_ng rfl rfl rfl rfl (ca rfl rfl rfl (ifitPayload_c hr22) trivial rfl rfl rfl rfl) ?_
                refine wkd ?_
                refine g2 rfl rfl rfl (fun h => ?_) (fun h => ?_)
                · have H := bt h H
                  refine wkd ?_
                  cases H
                  exact weak_of ⟨rfl, rfl, rfl, rfl, trivial⟩ ⟨rfl, ⟨rfl, rfl⟩, trivial⟩
                · have H := bf h H
                  refine wkd ?_
                  cases H
                  exact weak_of ⟨rfl, rfl, rfl, rfl, trivial⟩ ⟨rfl, ⟨rfl, rfl⟩, trivial⟩
            refine wkd ?_
            refine awc_cond rfl (fun h => ?_) (fun h => ?_)
            · have H := bt h H
              refine wkd ?_
              cases H
              exact fin_ret (.cons (.tmp rfl) .nil) rfl rfl rfl
            · have H := bf h H
              refine wkd ?_
              refine awc_iter (fun (q : Int) => ⟨[(1, .v (.c (.p 0 0))), (122, .v (.c (.d false (.l (a0.Window.Unacked.map eTNumberedPacket))))), (123, tI ((a0.Window.Unacked.length : Nat) : Int)), (124, tI q)], [(0, .var 125 [.d false (.i .i64 a0.Record.ID.Network), .d false (.i .i64 a0.Record.ID.Number), .d false (.i .i64 a0.Record.Key), .d false (.i .i64 a0.Record.Seq), .d false (.i .i64 a0.Plan.RateLimit), .d false (.i .i64 a0.Plan.BestClass), .d false (.i .i64 a0.Plan.GrantSize), .d false (.l (a0.Plan.RoamingNetworks.map eI)), .d false (.i .i64 a0.State), .d false (.i .i64 a0.Pending.Rand), .d false (.i .i64 a0.Pending.Autn), .d false (.i .i64 a0.Pending.MAC), .d false (.i .i64 a0.Pending.Res), .d false (.i .i64 a0.Pending.Key), .d false (.i .i64 a0.PendingSeq), .d false (.i .i64 a0.Generation), .d false (.i .i64 a0.RootKey), .d false (.i .i64 a0.Epoch), .d false (.i .i64 a0.Cell), .d false (.i .i64 a0.Quiet), .d false (.i .i64 a0.Page.Area), .d false (.i .i64 a0.Page.Attempt), .d false (.i .i64 a0.Page.Wait), .d false (.l (a0.Submitted.map eTPayload)), .d false (.i .i64 a0.Window.Next), .d false (.l (a0.Window.Unacked.map eTNumberedPacket)), .d false (.i .i64 a0.Retry), .d false (.i .i64 a0.Usage.SessionID), .d false (.i .i64 a0.Usage.Granted), .d false (.i .i64 a0.Usage.Used)])], 1⟩) H (weak_of ⟨rfl, rfl, rfl, rfl, rfl, rfl, rfl, rfl, trivial⟩ ⟨rfl, ⟨rfl, rfl⟩, trivial⟩) ?_
              rintro v23 o H
              try dsimp only
              refine wkd ?_
              refine awc_cond rfl (fun h => ?_) (fun h => ?_)
              · have H := bt h H
                refine wkd ?_
                obtain ⟨x24, hx24, H⟩ := ob H
                refine awr_n rfl (xdT (enc := eTNumberedPacket) hx24 (fun _ => rfl) rfl rfl rfl) ?_
                refine wkd ?_
                obtain ⟨x25, hx25, H⟩ := ob H
                refine dr_n rfl (xdT (enc := eTPayload) hx25 (fun _ => rfl) rfl rfl rfl) ?_
                refine wkd ?_
                obtain ⟨r26, hr26, H⟩ := ob H
                refine dr_n rfl (ca rfl rfl rfl (iEqualBytes_c hr26) trivial rfl rfl rfl rfl) ?_
                refine wkd ?_
                refine awc_cond rfl (fun h => ?_) (fun h => ?_)
                · have H := bt h H
                  refine wkd ?_
                  obtain ⟨r0, Hd, rfl⟩ := dnE H
                  refine iq_r (fun hq => ?_)
                  have H := Hd.trans (congrArg some hq)
                  refine wkd ?_
                  cases H
                  exact fin_ret (.cons (.tmp rfl) .nil) rfl rfl rfl
                · have H := bf h H
                  refine wkd ?_
                  cases H
                  refine iq_n ?_
                  exact weak_of ⟨rfl, rfl, rfl, rfl, rfl, rfl, rfl, rfl, trivial⟩ ⟨rfl, ⟨rfl, rfl⟩, trivial⟩
              · have H := bf h H
                refine wkd ?_
                obtain ⟨r0, Hd, rfl⟩ := dnE H
                refine iq_e (fun hq => ?_)
                have H := Hd.trans (congrArg some hq)
                refine wkd ?_
                obtain ⟨r27, hr27, H⟩ := ob H
                refine dr_n rfl (ca rfl rfl rfl (iOutstandingBytes_c hr27) trivial rfl rfl rfl rfl) ?_
                refine wkd ?_
                obtain ⟨r28, hr28, H⟩ := ob H
                refine dr_n rfl (ca rfl rfl rfl (iRemainingQuota_c hr28) trivial rfl rfl rfl rfl) ?_
                refine wkd ?_
                cases H
                exact fin_ret (.cons (.tmp rfl) .nil) rfl rfl rfl
def iTotalReserved_L1 (a0 : TAccount) : (Int × Int) → Option (Step (Int × Int) (Int))
  | (v1, v2) => bif ltB v2 ((a0.Reservations.length : Nat) : Int) then (Option.bind (ix a0.Reservations v2) fun x5 => some (.next (WR (v1 + x5.Amount), WR (v2 + 1)))) else (some (.done v1))
def iTotalReserved (a0 : TAccount) : Option Int :=
  Option.bind (iter (iTotalReserved_L1 a0) FU (0, 0)) fun (v4 : Int) => some v4
theorem iTotalReserved_c {a0 : TAccount} {r : Int} (H : iTotalReserved a0 = some r) : Fn Tryz.prog 225 [.agg (eTAccount a0)] [.c (.d (.i .i64 r))] := by
  refine fn_in Tryz.func225 rfl (by kernel_rfl) Tryz.ntmps225 rfl rfl rfl ?_
  refine wk ?_
  obtain ⟨v4, Hj, H⟩ := ob H
  refine awc_jblk ⟨[(3, tI v4)], [], 0⟩ ?_ ?_
  · refine wk ?_
    refine awc_iter (fun (q : Int × Int) => ⟨[(3, tI q.1), (7, .v (.c (.d false (.l (a0.Reservations.map eTReservation))))), (8, tI ((a0.Reservations.length : Nat) : Int)), (9, tI q.2)], [], 0⟩) Hj (weak_of ⟨rfl, rfl, rfl, rfl, rfl, rfl, rfl, rfl, trivial⟩ trivial) ?_
    rintro ⟨v1, v2⟩ o H
    try dsimp only
    refine wk ?_
    refine awc_cond rfl (fun h => ?_) (fun h => ?_)
    · have H := bt h H
      refine wk ?_
      obtain ⟨x5, hx5, H⟩ := ob H
      refine awr_n rfl (xdT (enc := eTReservation) hx5 (fun _ => rfl) rfl rfl rfl) ?_
      refine wk ?_
      cases H
      refine iq_n ?_
      exact weak_of ⟨rfl, rfl, rfl, rfl, rfl, rfl, rfl, rfl, trivial⟩ trivial
    · have H := bf h H
      refine wk ?_
      cases H
      refine iq_e (fun hq => ?_)
      cases hq
      refine wk ?_
      exact weak_of ⟨rfl, rfl, trivial⟩ trivial
  refine wk ?_
  cases H
  exact fin_ret (.cons (.tmp rfl) .nil) rfl rfl rfl
def iIsValidAccount_L1 (a0 : TAccount) : Int → Option (Step (Int) (Bool))
  | v5 => bif ltB v5 ((a0.Reservations.length : Nat) : Int) then (Option.bind (ix a0.Reservations v5) fun x6 => Option.bind (bif ltB x6.SessionID 0 then (some true) else (Option.bind (iInRange x6.Amount 1 100000) fun r8 => some (!r8))) fun (v7 : Bool) => bif v7 then (dn (some false)) else (Option.bind (bif ltB 0 v5 then (Option.bind (ix a0.Reservations (WR (v5 - 1))) fun x10 => some (leB x6.SessionID x10.SessionID)) else (some false)) fun (v9 : Bool) => bif v9 then (dn (some false)) else (some (.next (WR (v5 + 1)))))) else (dn (Option.bind (iTotalReserved a0) fun r11 => some (eqB (WR ((WR (a0.Available + a0.Spent)) + r11)) a0.Total)))
def iIsValidAccount (a0 : TAccount) : Option Bool :=
  Option.bind (iInRange a0.Total 0 100000) fun r1 => Option.bind (bif !r1 then (some true) else (Option.bind (iInRange a0.Available 0 a0.Total) fun r3 => bif !r3 then (some true) else (Option.bind (iInRange a0.Spent 0 a0.Total) fun r4 => some (!r4)))) fun (v2 : Bool) => bif v2 then (some false) else (bif ltB 8 ((a0.Reservations.length : Nat) : Int) then (some false) else (iter (iIsValidAccount_L1 a0) FU 0))
theorem iIsValidAccount_c {a0 : TAccount} {r : Bool} (H : iIsValidAccount a0 = some r) : Fn Tryz.prog 174 [.agg (eTAccount a0)] [.c (.d (.b r))] := by
  refine fn_in Tryz.func174 rfl (by kernel_rfl) Tryz.ntmps174 rfl rfl rfl ?_
  refine wkd ?_
  obtain ⟨r1, hr1, H⟩ := ob H
  refine awr_n rfl (ca rfl rfl rfl (iInRange_c hr1) trivial rfl rfl rfl rfl) ?_
  refine wkd ?_
  obtain ⟨v2, Hj, H⟩ := ob H
  refine awr_join ⟨[(1, .v (.c (.p 0 0))), (24, tB v2)], [(0, .var 179 [.d false (.i .i64 a0.Total), .d false (.i .i64 a0.Available), .d false (.i .i64 a0.Spent), .d false (.l (a0.Reservations.map eTReservation))])], 1⟩ ?_ ?_
  · have H := Hj
    refine wkd ?_
    refine g2 rfl rfl rfl (fun h => ?_) (fun h => ?_)
    · have H := bt h H
      refine wkd ?_
      cases H
      exact weak_of ⟨rfl, rfl, rfl, rfl, trivial⟩ ⟨rfl, ⟨rfl, rfl⟩, trivial⟩
    · have H := bf h H
      refine wkd ?_
      obtain ⟨r3, hr3, H⟩ := ob H
      refine awr_ng rfl rfl rfl rfl (ca rfl rfl rfl (iInRange_c hr3) trivial rfl rfl rfl rfl) ?_
      refine wkd ?_
      refine g2 rfl rfl rfl (fun h => ?_) (fun h => ?_)
      · have H := bt h H
        refine wkd ?_
        cases H
        exact weak_of ⟨rfl, rfl, rfl, rfl, trivial⟩ ⟨rfl, ⟨rfl, rfl⟩, trivial⟩
      · have H := bf h H
        refine wkd ?_
        obtain ⟨r4, hr4, H⟩ := ob H
        refine awr_ng rfl rfl rfl rfl (ca rfl rfl rfl (iInRange_c hr4) trivial rfl rfl rfl rfl) ?_
        refine wkd ?_
        cases H
        exact weak_of ⟨rfl, rfl, rfl, rfl, trivial⟩ ⟨rfl, ⟨rfl, rfl⟩, trivial⟩
  refine wkd ?_
  refine awc_cond rfl (fun h => ?_) (fun h => ?_)
  · have H := bt h H
    refine wkd ?_
    cases H
    exact fin_ret (.cons (.tmp rfl) .nil) rfl rfl rfl
  · have H := bf h H
    refine wkd ?_
    refine awc_cond rfl (fun h => ?_) (fun h => ?_)
    · have H := bt h H
      refine wkd ?_
      cases H
      exact fin_ret (.cons (.tmp rfl) .nil) rfl rfl rfl
    · have H := bf h H
      refine wkd ?_
      refine awc_iter (fun (q : Int) => ⟨[(1, .v (.c (.p 0 0))), (30, .v (.c (.d false (.l (a0.Reservations.map eTReservation))))), (31, tI ((a0.Reservations.length : Nat) : Int)), (32, tI q)], [(0, .var 179 [.d false (.i .i64 a0.Total), .d false (.i .i64 a0.Available), .d false (.i .i64 a0.Spent), .d false (.l (a0.Reservations.map eTReservation))])], 1⟩) H (weak_of ⟨rfl, rfl, rfl, rfl, rfl, rfl, rfl, rfl, trivial⟩ ⟨rfl, ⟨rfl, rfl⟩, trivial⟩) ?_
      rintro v5 o H
      try dsimp only
      refine wkd ?_
      refine awc_cond rfl (fun h => ?_) (fun h => ?_)
      · have H := bt h H
        refine wkd ?_
        obtain ⟨x6, hx6, H⟩ := ob H
        refine awr_n rfl (xdT (enc := eTReservation) hx6 (fun _ => rfl) rfl rfl rfl) ?_
        refine wkd ?_
        obtain ⟨v7, Hj, H⟩ := ob H
        refine awr_join ⟨[(1, .v (.c (.p 0 0))), (3, tI v5), (4, .v (.c (.p 1 0))), (30, .v (.c (.d false (.l (a0.Reservations.map eTReservation))))), (31, tI ((a0.Reservations.length : Nat) : Int)), (32, tI v5), (45, tB v7)], [(0, .var 179 [.d false (.i .i64 a0.Total), .d false (.i .i64 a0.Available), .d false (.i .i64 a0.Spent), .d false (.l (a0.Reservations.map eTReservation))]), (1, .var 243 [.d false (.i .i64 x6.SessionID), .d false (.i .i64 x6.Amount)])], 2⟩ ?_ ?_
        · have H := Hj
          refine wkd ?_
          refine g2 rfl rfl rfl (fun h => ?_) (fun h => ?_)
          · have H := bt h H
            refine wkd ?_
            cases H
            exact weak_of ⟨rfl, rfl, rfl, rfl, rfl, rfl, rfl, rfl, rfl, rfl, rfl, rfl, rfl, rfl, trivial⟩ ⟨rfl, ⟨rfl, rfl⟩, rfl, ⟨rfl, rfl⟩, trivial⟩
          · have H := bf h H
            refine wkd ?_
            obtain ⟨r8, hr8, H⟩ := ob H
            refine awr_ng rfl rfl rfl rfl (ca rfl rfl rfl (iInRange_c hr8) trivial rfl rfl rfl rfl) ?_
            refine wkd ?_
            cases H
            exact weak_of ⟨rfl, rfl, rfl, rfl, rfl, rfl, rfl, rfl, rfl, rfl, rfl, rfl, rfl, rfl, trivial⟩ ⟨rfl, ⟨rfl, rfl⟩, rfl, ⟨rfl, rfl⟩, trivial⟩
        refine wkd ?_
        refine awc_cond rfl (fun h => ?_) (fun h => ?_)
        · have H := bt h H
          refine wkd ?_
          obtain ⟨r0, Hd, rfl⟩ := dnE H
          refine iq_r (fun hq => ?_)
          have H := Hd.trans (congrArg some hq)
          refine wkd ?_
          cases H
          exact fin_ret (.cons (.tmp rfl) .nil) rfl rfl rfl
        · have H := bf h H
          refine wkd ?_
          obtain ⟨v9, Hj, H⟩ := ob H
          refine dr_join ⟨[(1, .v (.c (.p 0 0))), (30, .v (.c (.d false (.l (a0.Reservations.map eTReservation))))), (31, tI ((a0.Reservations.length : Nat) : Int)), (32, tI v5), (59, tB v9)], [(0, .var 179 [.d false (.i .i64 a0.Total), .d false (.i .i64 a0.Available), .d false (.i .i64 a0.Spent), .d false (.l (a0.Reservations.map eTReservation))])], 1⟩ ?_ ?_
          · have H := Hj
            refine wkd ?_
            refine dg2 rfl rfl rfl (fun h => ?_) (fun h => ?_)
            · have H := bt h H
              refine wkd ?_
              obtain ⟨x10, hx10, H⟩ := ob H
              refine dr_ng rfl rfl rfl rfl (xdT (enc := eTReservation) hx10 (fun _ => rfl) rfl rfl rfl) ?_
              refine wkd ?_
              cases H
              exact weak_of ⟨rfl, rfl, rfl, rfl, rfl, rfl, rfl, rfl, rfl, rfl, trivial⟩ ⟨rfl, ⟨rfl, rfl⟩, trivial⟩
            · have H := bf h H
              refine wkd ?_
              cases H
              exact weak_of ⟨rfl, rfl, rfl, rfl, rfl, rfl, rfl, rfl, rfl, rfl, trivial⟩ ⟨rfl, ⟨rfl, rfl⟩, trivial⟩
          refine wkd ?_
          refine awc_cond rfl (fun h => ?_) (fun h => ?_)
          · have H := bt h H
            refine wkd ?_
            obtain ⟨r0, Hd, rfl⟩ := dnE H
            refine iq_r (fun hq => ?_)
            have H := Hd.trans (congrArg some hq)
            refine wkd ?_
            cases H
            exact fin_ret (.cons (.tmp rfl) .nil) rfl rfl rfl
          · have H := bf h H
            refine wkd ?_
            cases H
            refine iq_n ?_
            exact weak_of ⟨rfl, rfl, rfl, rfl, rfl, rfl, rfl, rfl, trivial⟩ ⟨rfl, ⟨rfl, rfl⟩, trivial⟩
      · have H := bf h H
        refine wkd ?_
        obtain ⟨r0, Hd, rfl⟩ := dnE H
        refine iq_e (fun hq => ?_)
        have H := Hd.trans (congrArg some hq)
        refine wkd ?_
        obtain ⟨r11, hr11, H⟩ := ob H
        refine dr_n rfl (ca rfl rfl rfl (iTotalReserved_c hr11) trivial rfl rfl rfl rfl) ?_
        refine wkd ?_
        cases H
        exact fin_ret (.cons (.tmp rfl) .nil) rfl rfl rfl
def ireservationIndex_L1 (a0 : TAccount) (a1 : Int) : Int → Option (Step (Int) (Int))
  | v1 => bif ltB v1 ((a0.Reservations.length : Nat) : Int) then (Option.bind (ix a0.Reservations v1) fun x2 => bif eqB x2.SessionID a1 then (dn (some v1)) else (some (.next (WR (v1 + 1))))) else (dn (some (-1)))
def ireservationIndex (a0 : TAccount) (a1 : Int) : Option Int :=
  iter (ireservationIndex_L1 a0 a1) FU 0
theorem ireservationIndex_c {a0 : TAccount} {a1 : Int} {r : Int} (H : ireservationIndex a0 a1 = some r) : Fn Tryz.prog 246 [.agg (eTAccount a0), aI a1] [.c (.d (.i .i64 r))] := by
  refine fn_in Tryz.func246 rfl (by kernel_rfl) Tryz.ntmps246 rfl rfl rfl ?_
  refine wk ?_
  refine awc_iter (fun (q : Int) => ⟨[(1, tI a1), (8, .v (.c (.d false (.l (a0.Reservations.map eTReservation))))), (9, tI ((a0.Reservations.length : Nat) : Int)), (10, tI q)], [], 0⟩) H (weak_of ⟨rfl, rfl, rfl, rfl, rfl, rfl, rfl, rfl, trivial⟩ trivial) ?_
  rintro v1 o H
  try dsimp only
  refine wk ?_
  refine awc_cond rfl (fun h => ?_) (fun h => ?_)
  · have H := bt h H
    refine wk ?_
    obtain ⟨x2, hx2, H⟩ := ob H
    refine awr_n rfl (xdT (enc := eTReservation) hx2 (fun _ => rfl) rfl rfl rfl) ?_
    refine wk ?_
    refine awc_cond rfl (fun h => ?_) (fun h => ?_)
    · have H := bt h H
      refine wk ?_
      obtain ⟨r0, Hd, rfl⟩ := dnE H
      refine iq_r (fun hq => ?_)
      have H := Hd.trans (congrArg some hq)
      refine wk ?_
      cases H
      exact fin_ret (.cons (.tmp rfl) .nil) rfl rfl rfl
    · have H := bf h H
      refine wk ?_
      cases H
      refine iq_n ?_
      exact weak_of ⟨rfl, rfl, rfl, rfl, rfl, rfl, rfl, rfl, trivial⟩ trivial
  · have H := bf h H
    refine wk ?_
    obtain ⟨r0, Hd, rfl⟩ := dnE H
    refine iq_e (fun hq => ?_)
    have H := Hd.trans (congrArg some hq)
    refine wk ?_
    cases H
    exact fin_ret (.cons (.tmp rfl) .nil) rfl rfl rfl
def iReservedFor (a0 : TAccount) (a1 : Int) : Option Int :=
  Option.bind (ireservationIndex a0 a1) fun r1 => bif ltB r1 0 then (some 0) else (Option.bind (ix a0.Reservations r1) fun x2 => some x2.Amount)
theorem iReservedFor_c {a0 : TAccount} {a1 : Int} {r : Int} (H : iReservedFor a0 a1 = some r) : Fn Tryz.prog 226 [.agg (eTAccount a0), aI a1] [.c (.d (.i .i64 r))] := by
  refine fn_in Tryz.func226 rfl (by kernel_rfl) Tryz.ntmps226 rfl rfl rfl ?_
  refine wk ?_
  obtain ⟨r1, hr1, H⟩ := ob H
  refine awr_n rfl (ca rfl rfl rfl (ireservationIndex_c hr1) trivial rfl rfl rfl rfl) ?_
  refine wk ?_
  refine awc_cond rfl (fun h => ?_) (fun h => ?_)
  · have H := bt h H
    refine wk ?_
    cases H
    exact fin_ret (.cons (.tmp rfl) .nil) rfl rfl rfl
  · have H := bf h H
    refine wk ?_
    obtain ⟨x2, hx2, H⟩ := ob H
    refine awr_n rfl (xdT (enc := eTReservation) hx2 (fun _ => rfl) rfl rfl rfl) ?_
    refine wk ?_
    cases H
    exact fin_ret (.cons (.tmp rfl) .nil) rfl rfl rfl
def iQuotaMatchesAccount (a0 : TAccount) (a1 : TQuota) : Option Bool :=
  Option.bind (iIsValidAccount a0) fun r1 => Option.bind (bif r1 then (Option.bind (iIsValidQuota a1) fun r3 => bif r3 then (Option.bind (iReservedFor a0 a1.SessionID) fun r4 => some (eqB r4 a1.Granted)) else (some false)) else (some false)) fun (v2 : Bool) => some v2
theorem iQuotaMatchesAccount_c {a0 : TAccount} {a1 : TQuota} {r : Bool} (H : iQuotaMatchesAccount a0 a1 = some r) : Fn Tryz.prog 175 [.agg (eTAccount a0), .agg (eTQuota a1)] [.c (.d (.b r))] := by
  refine fn_in Tryz.func175 rfl (by kernel_rfl) Tryz.ntmps175 rfl rfl rfl ?_
  refine wkd ?_
  obtain ⟨r1, hr1, H⟩ := ob H
  refine dr_n rfl (ca rfl rfl rfl (iIsValidAccount_c hr1) trivial rfl rfl rfl rfl) ?_
  refine wkd ?_
  obtain ⟨v2, Hj, H⟩ := ob H
  refine dr_join ⟨[(4, tB v2)], [], 0⟩ ?_ ?_
  · have H := Hj
    refine wkd ?_
    refine dg2 rfl rfl rfl (fun h => ?_) (fun h => ?_)
    · have H := bt h H
      refine wkd ?_
      obtain ⟨r3, hr3, H⟩ := ob H
      refine dr_ng rfl rfl rfl rfl (ca rfl rfl rfl (iIsValidQuota_c hr3) trivial rfl rfl rfl rfl) ?_
      refine wkd ?_
      refine dg2 rfl rfl rfl (fun h => ?_) (fun h => ?_)
      · have H := bt h H
        refine wkd ?_
        obtain ⟨r4, hr4, H⟩ := ob H
        refine dr_ng rfl rfl rfl rfl (ca rfl rfl rfl (iReservedFor_c hr4) trivial rfl rfl rfl rfl) ?_
        refine wkd ?_
        cases H
        exact weak_of ⟨rfl, rfl, trivial⟩ trivial
      · have H := bf h H
        refine wkd ?_
        cases H
        exact weak_of ⟨rfl, rfl, trivial⟩ trivial
    · have H := bf h H
      refine wkd ?_
      cases H
      exact weak_of ⟨rfl, rfl, trivial⟩ trivial
  refine wkd ?_
  cases H
  exact fin_ret (.cons (.tmp rfl) .nil) rfl rfl rfl
def iisValidSubscriber (a0 : TNetwork) (a1 : Int) : Option Bool :=
  Option.bind (ix a0.Devices a1) fun x1 => Option.bind (ix a0.Sessions a1) fun x2 => Option.bind (iIsValidDevice x1) fun r3 => Option.bind (bif r3 then (Option.bind (iIsValidSession x2) fun r5 => bif r5 then (Option.bind (ix a0.Accounts a1) fun x6 => Option.bind (iIsValidAccount x6) fun r7 => bif r7 then (bif (eqB x1.Card.ID.Network x2.Record.ID.Network && (eqB x1.Card.ID.Number x2.Record.ID.Number && true)) then (bif eqB x1.Card.Key x2.Record.Key then (Option.bind (iisCell a0.Map x1.Cell) fun r8 => bif r8 then (Option.bind (iisCell a0.Map x2.Cell) fun r9 => bif r9 then (bif eqB x2.Usage.SessionID a1 then (Option.bind (ix a0.Accounts a1) fun x10 => Option.bind (iQuotaMatchesAccount x10 x2.Usage) fun r11 => some r11) else (some false)) else (some false)) else (some false)) else (some false)) else (some false)) else (some false)) else (some false)) else (some false)) fun (v4 : Bool) => some v4
theorem iisValidSubscriber_c {a0 : TNetwork} {a1 : Int} {r : Bool} (H : iisValidSubscriber a0 a1 = some r) : Fn Tryz.prog 108 [.agg (eTNetwork a0), aI a1] [.c (.d (.b r))] := by
  refine fn_in Tryz.func108 rfl (by kernel_rfl) Tryz.ntmps108 rfl rfl rfl ?_
  refine wkd ?_
  obtain ⟨x1, hx1, H⟩ := ob H
  refine awr_n rfl (xdT (enc := eTDevice) hx1 (fun _ => rfl) rfl rfl rfl) ?_
  refine wkd ?_
  obtain ⟨x2, hx2, H⟩ := ob H
  refine awr_n rfl (xdT (enc := eTSession) hx2 (fun _ => rfl) rfl rfl rfl) ?_
  refine wkd ?_
  obtain ⟨r3, hr3, H⟩ := ob H
  refine dr_n rfl (ca rfl rfl rfl (iIsValidDevice_c hr3) trivial rfl rfl rfl rfl) ?_
  refine wkd ?_
  obtain ⟨v4, Hj, H⟩ := ob H
  refine dr_join ⟨[(4, tB v4)], [], 0⟩ ?_ ?_
  · have H := Hj
    refine wkd ?_
    refine dg2 rfl rfl rfl (fun h => ?_) (fun h => ?_)
    · have H := bt h H
      refine wkd ?_
      obtain ⟨r5, hr5, H⟩ := ob H
      refine dr_ng rfl rfl rfl rfl (ca rfl rfl rfl (iIsValidSession_c hr5) trivial rfl rfl rfl rfl) ?_
      refine wkd ?_
      refine dg2 rfl rfl rfl (fun h => ?_) (fun h => ?_)
      · have H := bt h H
        refine wkd ?_
        obtain ⟨x6, hx6, H⟩ := ob H
        refine dr_ng rfl rfl rfl rfl (xdT (enc := eTAccount) hx6 (fun _ => rfl) rfl rfl rfl) ?_
        refine wkd ?_
        obtain ⟨r7, hr7, H⟩ := ob H
        refine dr_ng rfl rfl rfl rfl (ca rfl rfl rfl (iIsValidAccount_c hr7) trivial rfl rfl rfl rfl) ?_
        refine wkd ?_
        refine dg2 rfl rfl rfl (fun h => ?_) (fun h => ?_)
        · have H := bt h H
          refine wkd ?_
          refine dg2 rfl rfl rfl (fun h => ?_) (fun h => ?_)
          · have H := bt h H
            refine wkd ?_
            refine dg2 rfl rfl rfl (fun h => ?_) (fun h => ?_)
            · have H := bt h H
              refine wkd ?_
              obtain ⟨r8, hr8, H⟩ := ob H
              refine dr_ng rfl rfl rfl rfl (ca rfl rfl rfl (iisCell_c hr8) trivial rfl rfl rfl rfl) ?_
              refine wkd ?_
              refine dg2 rfl rfl rfl (fun h => ?_) (fun h => ?_)
              · have H := bt h H
                refine wkd ?_
                obtain ⟨r9, hr9, H⟩ := ob H
                refine dr_ng rfl rfl rfl rfl (ca rfl rfl rfl (iisCell_c hr9) trivial rfl rfl rfl rfl) ?_
                refine wkd ?_
                refine dg2 rfl rfl rfl (fun h => ?_) (fun h => ?_)
                · have H := bt h H
                  refine wkd ?_
                  refine dg2 rfl rfl rfl (fun h => ?_) (fun h => ?_)
                  · have H := bt h H
                    refine wkd ?_
                    obtain ⟨x10, hx10, H⟩ := ob H
                    refine dr_ng rfl rfl rfl rfl (xdT (enc := eTAccount) hx10 (fun _ => rfl) rfl rfl rfl) ?_
                    refine wkd ?_
                    obtain ⟨r11, hr11, H⟩ := ob H
                    refine dr_ng rfl rfl rfl rfl (ca rfl rfl rfl (iQuotaMatchesAccount_c hr11) trivial rfl rfl rfl rfl) ?_
                    refine wkd ?_
                    cases H
                    exact weak_of ⟨rfl, rfl, trivial⟩ trivial
                  · have H := bf h H
                    refine wkd ?_
                    cases H
                    exact weak_of ⟨rfl, rfl, trivial⟩ trivial
                · have H := bf h H
                  refine wkd ?_
                  cases H
                  exact weak_of ⟨rfl, rfl, trivial⟩ trivial
              · have H := bf h H
                refine wkd ?_
                cases H
                exact weak_of ⟨rfl, rfl, trivial⟩ trivial
            · have H := bf h H
              refine wkd ?_
              cases H
              exact weak_of ⟨rfl, rfl, trivial⟩ trivial
          · have H := bf h H
            refine wkd ?_
            cases H
            exact weak_of ⟨rfl, rfl, trivial⟩ trivial
        · have H := bf h H
          refine wkd ?_
          cases H
          exact weak_of ⟨rfl, rfl, trivial⟩ trivial
      · have H := bf h H
        refine wkd ?_
        cases H
        exact weak_of ⟨rfl, rfl, trivial⟩ trivial
    · have H := bf h H
      refine wkd ?_
      cases H
      exact weak_of ⟨rfl, rfl, trivial⟩ trivial
  refine wkd ?_
  cases H
  exact fin_ret (.cons (.tmp rfl) .nil) rfl rfl rfl
def iIsValidNetwork_L2 (a0 : TNetwork) : Int → Option (Step (Int) (Bool))
  | v7 => bif ltB v7 ((a0.Flights.length : Nat) : Int) then (Option.bind (ix a0.Flights v7) fun x8 => Option.bind (iInRange x8.Device 0 (WR (((a0.Devices.length : Nat) : Int) - 1))) fun r9 => Option.bind (bif !r9 then (some true) else (Option.bind (iisCell a0.Map x8.Cell) fun r11 => some (!r11))) fun (v10 : Bool) => bif v10 then (dn (some false)) else (some (.next (WR (v7 + 1))))) else (dn (bif leB 0 ((a0.Map.Cells.length : Nat) : Int) then (Option.bind (iInRange a0.DownCells 0 (WR ((bShl .i64 1 ((a0.Map.Cells.length : Nat) : Int)) - 1))) fun r12 => Option.bind (bif r12 then (Option.bind (iInRange a0.Now 0 100000) fun r14 => bif r14 then (some (leB 0 a0.Lost)) else (some false)) else (some false)) fun (v13 : Bool) => some v13) else none))
def iIsValidNetwork_L1 (a0 : TNetwork) : Int → Option (Step (Int) (Bool))
  | v5 => bif ltB v5 ((a0.Devices.length : Nat) : Int) then (Option.bind (iisValidSubscriber a0 v5) fun r6 => bif !r6 then (dn (some false)) else (some (.next (WR (v5 + 1))))) else (dn (bif ltB 200 ((a0.Flights.length : Nat) : Int) then (some false) else (iter (iIsValidNetwork_L2 a0) FU 0)))
def iIsValidNetwork (a0 : TNetwork) : Option Bool :=
  Option.bind (iIsValidMap a0.Map) fun r1 => Option.bind (bif !r1 then (some true) else (Option.bind (iIsValidPool a0.Core) fun r3 => bif !r3 then (some true) else (some (eqB a0.Core.UpMask 0)))) fun (v2 : Bool) => bif v2 then (some false) else (Option.bind (bif ltB 4 ((a0.Devices.length : Nat) : Int) then (some true) else (bif !eqB ((a0.Sessions.length : Nat) : Int) ((a0.Devices.length : Nat) : Int) then (some true) else (some (!eqB ((a0.Accounts.length : Nat) : Int) ((a0.Devices.length : Nat) : Int))))) fun (v4 : Bool) => bif v4 then (some false) else (iter (iIsValidNetwork_L1 a0) FU 0))
theorem iIsValidNetwork_c {a0 : TNetwork} {r : Bool} (H : iIsValidNetwork a0 = some r) : Fn Tryz.prog 61 [.agg (eTNetwork a0)] [.c (.d (.b r))] := by
  refine fn_in Tryz.func61 rfl (by kernel_rfl) Tryz.ntmps61 rfl rfl rfl ?_
  refine wkd ?_
  obtain ⟨r1, hr1, H⟩ := ob H
  refine awr_n rfl (ca rfl rfl rfl (iIsValidMap_c hr1) trivial rfl rfl rfl rfl) ?_
  refine wkd ?_
  obtain ⟨v2, Hj, H⟩ := ob H
  refine awr_join ⟨[(1, .v (.c (.p 0 0))), (21, tB v2)], [(0, .var 47 [.d false (.l (a0.Map.Cells.map eTCell)), .d false (.l (a0.Devices.map eTDevice)), .d false (.l (a0.Sessions.map eTSession)), .d false (.l (a0.Accounts.map eTAccount)), .d false (.l (a0.Flights.map eTFlight)), .d false (.i .i64 a0.DownCells), .d false (.i .i64 a0.Core.Size), .d false (.i .i64 a0.Core.UpMask), .d false (.i .i64 a0.Now), .d false (.i .i64 a0.Lost)])], 1⟩ ?_ ?_
  · have H := Hj
    refine wkd ?_
    refine g2 rfl rfl rfl (fun h => ?_) (fun h => ?_)
    · have H := bt h H
      refine wkd ?_
      cases H
      exact weak_of ⟨rfl, rfl, rfl, rfl, trivial⟩ ⟨rfl, ⟨rfl, rfl⟩, trivial⟩
    · have H := bf h H
      refine wkd ?_
      obtain ⟨r3, hr3, H⟩ := ob H
      refine awr_ng rfl rfl rfl rfl (ca rfl rfl rfl (iIsValidPool_c hr3) trivial rfl rfl rfl rfl) ?_
      refine wkd ?_
      refine g2 rfl rfl rfl (fun h => ?_) (fun h => ?_)
      · have H := bt h H
        refine wkd ?_
        cases H
        exact weak_of ⟨rfl, rfl, rfl, rfl, trivial⟩ ⟨rfl, ⟨rfl, rfl⟩, trivial⟩
      · have H := bf h H
        refine wkd ?_
        cases H
        exact weak_of ⟨rfl, rfl, rfl, rfl, trivial⟩ ⟨rfl, ⟨rfl, rfl⟩, trivial⟩
  refine wkd ?_
  refine awc_cond rfl (fun h => ?_) (fun h => ?_)
  · have H := bt h H
    refine wkd ?_
    cases H
    exact fin_ret (.cons (.tmp rfl) .nil) rfl rfl rfl
  · have H := bf h H
    refine wkd ?_
    obtain ⟨v4, Hj, H⟩ := ob H
    refine awr_join ⟨[(1, .v (.c (.p 0 0))), (43, tB v4)], [(0, .var 47 [.d false (.l (a0.Map.Cells.map eTCell)), .d false (.l (a0.Devices.map eTDevice)), .d false (.l (a0.Sessions.map eTSession)), .d false (.l (a0.Accounts.map eTAccount)), .d false (.l (a0.Flights.map eTFlight)), .d false (.i .i64 a0.DownCells), .d false (.i .i64 a0.Core.Size), .d false (.i .i64 a0.Core.UpMask), .d false (.i .i64 a0.Now), .d false (.i .i64 a0.Lost)])], 1⟩ ?_ ?_
    · have H := Hj
      refine wkd ?_
      refine g2 rfl rfl rfl (fun h => ?_) (fun h => ?_)
      · have H := bt h H
        refine wkd ?_
        cases H
        exact weak_of ⟨rfl, rfl, rfl, rfl, trivial⟩ ⟨rfl, ⟨rfl, rfl⟩, trivial⟩
      · have H := bf h H
        refine wkd ?_
        refine g2 rfl rfl rfl (fun h => ?_) (fun h => ?_)
        · have H := bt h H
          refine wkd ?_
          cases H
          exact weak_of ⟨rfl, rfl, rfl, rfl, trivial⟩ ⟨rfl, ⟨rfl, rfl⟩, trivial⟩
        · have H := bf h H
          refine wkd ?_
          cases H
          exact weak_of ⟨rfl, rfl, rfl, rfl, trivial⟩ ⟨rfl, ⟨rfl, rfl⟩, trivial⟩
    refine wkd ?_
    refine awc_cond rfl (fun h => ?_) (fun h => ?_)
    · have H := bt h H
      refine wkd ?_
      cases H
      exact fin_ret (.cons (.tmp rfl) .nil) rfl rfl rfl
    · have H := bf h H
      refine wkd ?_
      refine awc_iter (fun (q : Int) => ⟨[(1, .v (.c (.p 0 0))), (46, tI ((a0.Devices.length : Nat) : Int)), (47, tI q)], [(0, .var 47 [.d false (.l (a0.Map.Cells.map eTCell)), .d false (.l (a0.Devices.map eTDevice)), .d false (.l (a0.Sessions.map eTSession)), .d false (.l (a0.Accounts.map eTAccount)), .d false (.l (a0.Flights.map eTFlight)), .d false (.i .i64 a0.DownCells), .d false (.i .i64 a0.Core.Size), .d false (.i .i64 a0.Core.UpMask), .d false (.i .i64 a0.Now), .d false (.i .i64 a0.Lost)])], 1⟩) H (weak_of ⟨rfl, rfl, rfl, rfl, rfl, rfl, trivial⟩ ⟨rfl, ⟨rfl, rfl⟩, trivial⟩) ?_
      rintro v5 o H
      try dsimp only
      refine wkd ?_
      refine awc_cond rfl (fun h => ?_) (fun h => ?_)
      · have H := bt h H
        refine wkd ?_
        obtain ⟨r6, hr6, H⟩ := ob H
        refine awr_n rfl (ca rfl rfl rfl (iisValidSubscriber_c hr6) trivial rfl rfl rfl rfl) ?_
        refine wkd ?_
        refine awc_cond rfl (fun h => ?_) (fun h => ?_)
        · have H := bt h H
          refine wkd ?_
          obtain ⟨r0, Hd, rfl⟩ := dnE H
          refine iq_r (fun hq => ?_)
          have H := Hd.trans (congrArg some hq)
          refine wkd ?_
          cases H
          exact fin_ret (.cons (.tmp rfl) .nil) rfl rfl rfl
        · have H := bf h H
          refine wkd ?_
          cases H
          refine iq_n ?_
          exact weak_of ⟨rfl, rfl, rfl, rfl, rfl, rfl, trivial⟩ ⟨rfl, ⟨rfl, rfl⟩, trivial⟩
      · have H := bf h H
        refine wkd ?_
        obtain ⟨r0, Hd, rfl⟩ := dnE H
        refine iq_e (fun hq => ?_)
        have H := Hd.trans (congrArg some hq)
        refine wkd ?_
        refine awc_cond rfl (fun h => ?_) (fun h => ?_)
        · have H := bt h H
          refine wkd ?_
          cases H
          exact fin_ret (.cons (.tmp rfl) .nil) rfl rfl rfl
        · have H := bf h H
          refine wkd ?_
          refine awc_iter (fun (q : Int) => ⟨[(1, .v (.c (.p 0 0))), (60, .v (.c (.d false (.l (a0.Flights.map eTFlight))))), (61, tI ((a0.Flights.length : Nat) : Int)), (62, tI q)], [(0, .var 47 [.d false (.l (a0.Map.Cells.map eTCell)), .d false (.l (a0.Devices.map eTDevice)), .d false (.l (a0.Sessions.map eTSession)), .d false (.l (a0.Accounts.map eTAccount)), .d false (.l (a0.Flights.map eTFlight)), .d false (.i .i64 a0.DownCells), .d false (.i .i64 a0.Core.Size), .d false (.i .i64 a0.Core.UpMask), .d false (.i .i64 a0.Now), .d false (.i .i64 a0.Lost)])], 1⟩) H (weak_of ⟨rfl, rfl, rfl, rfl, rfl, rfl, rfl, rfl, trivial⟩ ⟨rfl, ⟨rfl, rfl⟩, trivial⟩) ?_
          rintro v7 o H
          try dsimp only
          refine wkd ?_
          refine awc_cond rfl (fun h => ?_) (fun h => ?_)
          · have H := bt h H
            refine wkd ?_
            obtain ⟨x8, hx8, H⟩ := ob H
            refine awr_n rfl (xdT (enc := eTFlight) hx8 (fun _ => rfl) rfl rfl rfl) ?_
            refine wkd ?_
            obtain ⟨r9, hr9, H⟩ := ob H
            refine awr_n rfl (ca rfl rfl rfl (iInRange_c hr9) trivial rfl rfl rfl rfl) ?_
            refine wkd ?_
            obtain ⟨v10, Hj, H⟩ := ob H
            refine awr_join ⟨[(1, .v (.c (.p 0 0))), (60, .v (.c (.d false (.l (a0.Flights.map eTFlight))))), (61, tI ((a0.Flights.length : Nat) : Int)), (62, tI v7), (81, tB v10)], [(0, .var 47 [.d false (.l (a0.Map.Cells.map eTCell)), .d false (.l (a0.Devices.map eTDevice)), .d false (.l (a0.Sessions.map eTSession)), .d false (.l (a0.Accounts.map eTAccount)), .d false (.l (a0.Flights.map eTFlight)), .d false (.i .i64 a0.DownCells), .d false (.i .i64 a0.Core.Size), .d false (.i .i64 a0.Core.UpMask), .d false (.i .i64 a0.Now), .d false (.i .i64 a0.Lost)])], 1⟩ ?_ ?_
            · have H := Hj
              refine wkd ?_
              refine g2 rfl rfl rfl (fun h => ?_) (fun h => ?_)
              · have H := bt h H
                refine wkd ?_
                cases H
                exact weak_of ⟨rfl, rfl, rfl, rfl, rfl, rfl, rfl, rfl, rfl, rfl, trivial⟩ ⟨rfl, ⟨rfl, rfl⟩, trivial⟩
              · have H := bf h H
                refine wkd ?_
                obtain ⟨r11, hr11, H⟩ := ob H
                refine awr_ng rfl rfl rfl rfl (ca rfl rfl rfl (iisCell_c hr11) trivial rfl rfl rfl rfl) ?_
                refine wkd ?_
                cases H
                exact weak_of ⟨rfl, rfl, rfl, rfl, rfl, rfl, rfl, rfl, rfl, rfl, trivial⟩ ⟨rfl, ⟨rfl, rfl⟩, trivial⟩
            refine wkd ?_
            refine awc_cond rfl (fun h => ?_) (fun h => ?_)
            · have H := bt h H
              refine wkd ?_
              obtain ⟨r0, Hd, rfl⟩ := dnE H
              refine iq_r (fun hq => ?_)
              have H := Hd.trans (congrArg some hq)
              refine wkd ?_
              cases H
              exact fin_ret (.cons (.tmp rfl) .nil) rfl rfl rfl
            · have H := bf h H
              refine wkd ?_
              cases H
              refine iq_n ?_
              exact weak_of ⟨rfl, rfl, rfl, rfl, rfl, rfl, rfl, rfl, trivial⟩ ⟨rfl, ⟨rfl, rfl⟩, trivial⟩
          · have H := bf h H
            refine wkd ?_
            obtain ⟨r0, Hd, rfl⟩ := dnE H
            refine iq_e (fun hq => ?_)
            have H := Hd.trans (congrArg some hq)
            refine wkd ?_
            obtain ⟨h, H⟩ := rq H
            refine dr_n rfl (ishT h rfl rfl rfl rfl) ?_
            refine wkd ?_
            obtain ⟨r12, hr12, H⟩ := ob H
            refine dr_n rfl (ca rfl rfl rfl (iInRange_c hr12) trivial rfl rfl rfl rfl) ?_
            refine wkd ?_
            obtain ⟨v13, Hj, H⟩ := ob H
            refine dr_join ⟨[(2, tB v13)], [], 0⟩ ?_ ?_
            · have H := Hj
              refine wkd ?_
              refine dg2 rfl rfl rfl (fun h => ?_) (fun h => ?_)
              · have H := bt h H
                refine wkd ?_
                obtain ⟨r14, hr14, H⟩ := ob H
                refine dr_ng rfl rfl rfl rfl (ca rfl rfl rfl (iInRange_c hr14) trivial rfl rfl rfl rfl) ?_
                refine wkd ?_
                refine dg2 rfl rfl rfl (fun h => ?_) (fun h => ?_)
                · have H := bt h H
                  refine wkd ?_
                  cases H
                  exact weak_of ⟨rfl, rfl, trivial⟩ trivial
                · have H := bf h H
                  refine wkd ?_
                  cases H
                  exact weak_of ⟨rfl, rfl, trivial⟩ trivial
              · have H := bf h H
                refine wkd ?_
                cases H
                exact weak_of ⟨rfl, rfl, trivial⟩ trivial
            refine wkd ?_
            cases H
            exact fin_ret (.cons (.tmp rfl) .nil) rfl rfl rfl
def ihasDevice (a0 : TNetwork) (a1 : Int) : Option Bool :=
  Option.bind (iInRange a1 0 (WR (((a0.Devices.length : Nat) : Int) - 1))) fun r1 => Option.bind (bif r1 then (Option.bind (iInRange a1 0 (WR (((a0.Sessions.length : Nat) : Int) - 1))) fun r3 => some r3) else (some false)) fun (v2 : Bool) => some v2
theorem ihasDevice_c {a0 : TNetwork} {a1 : Int} {r : Bool} (H : ihasDevice a0 a1 = some r) : Fn Tryz.prog 110 [.agg (eTNetwork a0), aI a1] [.c (.d (.b r))] := by
  refine fn_in Tryz.func110 rfl (by kernel_rfl) Tryz.ntmps110 rfl rfl rfl ?_
  refine wk ?_
  obtain ⟨r1, hr1, H⟩ := ob H
  refine awr_n rfl (ca rfl rfl rfl (iInRange_c hr1) trivial rfl rfl rfl rfl) ?_
  refine wk ?_
  obtain ⟨v2, Hj, H⟩ := ob H
  refine awr_join ⟨[(4, tB v2)], [], 0⟩ ?_ ?_
  · have H := Hj
    refine wk ?_
    refine g2 rfl rfl rfl (fun h => ?_) (fun h => ?_)
    · have H := bt h H
      refine wk ?_
      obtain ⟨r3, hr3, H⟩ := ob H
      refine awr_ng rfl rfl rfl rfl (ca rfl rfl rfl (iInRange_c hr3) trivial rfl rfl rfl rfl) ?_
      refine wk ?_
      cases H
      exact weak_of ⟨rfl, rfl, trivial⟩ trivial
    · have H := bf h H
      refine wk ?_
      cases H
      exact weak_of ⟨rfl, rfl, trivial⟩ trivial
  refine wk ?_
  cases H
  exact fin_ret (.cons (.tmp rfl) .nil) rfl rfl rfl
def iIsPrefixOf_L1 (a0 : List TPayload) (a1 : List TPayload) : Int → Option (Step (Int) (Bool))
  | v1 => bif ltB v1 ((a0.length : Nat) : Int) then (Option.bind (ix a0 v1) fun x2 => Option.bind (ix a1 v1) fun x3 => Option.bind (iEqualBytes x2.Data x3.Data) fun r4 => bif !r4 then (dn (some false)) else (some (.next (WR (v1 + 1))))) else (dn (some true))
def iIsPrefixOf (a0 : List TPayload) (a1 : List TPayload) : Option Bool :=
  bif ltB ((a1.length : Nat) : Int) ((a0.length : Nat) : Int) then (some false) else (iter (iIsPrefixOf_L1 a0 a1) FU 0)
theorem iIsPrefixOf_c {a0 : List TPayload} {a1 : List TPayload} {r : Bool} (H : iIsPrefixOf a0 a1 = some r) : Fn Tryz.prog 111 [aL (a0.map eTPayload), aL (a1.map eTPayload)] [.c (.d (.b r))] := by
  refine fn_in Tryz.func111 rfl (by kernel_rfl) Tryz.ntmps111 rfl rfl rfl ?_
  refine wkd ?_
  refine awc_cond rfl (fun h => ?_) (fun h => ?_)
  · have H := bt h H
    refine wkd ?_
    cases H
    exact fin_ret (.cons (.tmp rfl) .nil) rfl rfl rfl
  · have H := bf h H
    refine wkd ?_
    refine awc_iter (fun (q : Int) => ⟨[(0, .v (.c (.d false (.l (a0.map eTPayload))))), (1, .v (.c (.d false (.l (a1.map eTPayload))))), (12, tI ((a0.length : Nat) : Int)), (13, tI q)], [], 0⟩) H (weak_of ⟨rfl, rfl, rfl, rfl, rfl, rfl, rfl, rfl, trivial⟩ trivial) ?_
    rintro v1 o H
    try dsimp only
    refine wkd ?_
    refine awc_cond rfl (fun h => ?_) (fun h => ?_)
    · have H := bt h H
      refine wkd ?_
      obtain ⟨x2, hx2, H⟩ := ob H
      refine dr_n rfl (xdT (enc := eTPayload) hx2 (fun _ => rfl) rfl rfl rfl) ?_
      refine wkd ?_
      obtain ⟨x3, hx3, H⟩ := ob H
      refine dr_n rfl (xdT (enc := eTPayload) hx3 (fun _ => rfl) rfl rfl rfl) ?_
      refine wkd ?_
      obtain ⟨r4, hr4, H⟩ := ob H
      refine dr_n rfl (ca rfl rfl rfl (iEqualBytes_c hr4) trivial rfl rfl rfl rfl) ?_
      refine wkd ?_
      refine awc_cond rfl (fun h => ?_) (fun h => ?_)
      · have H := bt h H
        refine wkd ?_
        obtain ⟨r0, Hd, rfl⟩ := dnE H
        refine iq_r (fun hq => ?_)
        have H := Hd.trans (congrArg some hq)
        refine wkd ?_
        cases H
        exact fin_ret (.cons (.tmp rfl) .nil) rfl rfl rfl
      · have H := bf h H
        refine wkd ?_
        cases H
        refine iq_n ?_
        exact weak_of ⟨rfl, rfl, rfl, rfl, rfl, rfl, rfl, rfl, trivial⟩ trivial
    · have H := bf h H
      refine wkd ?_
      obtain ⟨r0, Hd, rfl⟩ := dnE H
      refine iq_e (fun hq => ?_)
      have H := Hd.trans (congrArg some hq)
      refine wkd ?_
      cases H
      exact fin_ret (.cons (.tmp rfl) .nil) rfl rfl rfl
def iDeliveredInOrder (a0 : TNetwork) (a1 : Int) : Option Bool :=
  Option.bind (ihasDevice a0 a1) fun r1 => Option.bind (bif r1 then (Option.bind (ix a0.Devices a1) fun x3 => Option.bind (ix a0.Sessions a1) fun x4 => Option.bind (iIsPrefixOf x3.Receiver.Delivered x4.Submitted) fun r5 => some r5) else (some false)) fun (v2 : Bool) => some v2
theorem iDeliveredInOrder_c {a0 : TNetwork} {a1 : Int} {r : Bool} (H : iDeliveredInOrder a0 a1 = some r) : Fn Tryz.prog 62 [.agg (eTNetwork a0), aI a1] [.c (.d (.b r))] := by
  refine fn_in Tryz.func62 rfl (by kernel_rfl) Tryz.ntmps62 rfl rfl rfl ?_
  refine wkd ?_
  obtain ⟨r1, hr1, H⟩ := ob H
  refine dr_n rfl (ca rfl rfl rfl (ihasDevice_c hr1) trivial rfl rfl rfl rfl) ?_
  refine wkd ?_
  obtain ⟨v2, Hj, H⟩ := ob H
  refine dr_join ⟨[(4, tB v2)], [], 0⟩ ?_ ?_
  · have H := Hj
    refine wkd ?_
    refine dg2 rfl rfl rfl (fun h => ?_) (fun h => ?_)
    · have H := bt h H
      refine wkd ?_
      obtain ⟨x3, hx3, H⟩ := ob H
      refine dr_ng rfl rfl rfl rfl (xdT (enc := eTDevice) hx3 (fun _ => rfl) rfl rfl rfl) ?_
      refine wkd ?_
      obtain ⟨x4, hx4, H⟩ := ob H
      refine dr_ng rfl rfl rfl rfl (xdT (enc := eTSession) hx4 (fun _ => rfl) rfl rfl rfl) ?_
      refine wkd ?_
      obtain ⟨r5, hr5, H⟩ := ob H
      refine dr_ng rfl rfl rfl rfl (ca rfl rfl rfl (iIsPrefixOf_c hr5) trivial rfl rfl rfl rfl) ?_
      refine wkd ?_
      cases H
      exact weak_of ⟨rfl, rfl, trivial⟩ trivial
    · have H := bf h H
      refine wkd ?_
      cases H
      exact weak_of ⟨rfl, rfl, trivial⟩ trivial
  refine wkd ?_
  cases H
  exact fin_ret (.cons (.tmp rfl) .nil) rfl rfl rfl
def ihasAccount (a0 : TNetwork) (a1 : Int) : Option Bool :=
  Option.bind (iInRange a1 0 (WR (((a0.Accounts.length : Nat) : Int) - 1))) fun r1 => Option.bind (bif r1 then (Option.bind (iInRange a1 0 (WR (((a0.Sessions.length : Nat) : Int) - 1))) fun r3 => some r3) else (some false)) fun (v2 : Bool) => some v2
theorem ihasAccount_c {a0 : TNetwork} {a1 : Int} {r : Bool} (H : ihasAccount a0 a1 = some r) : Fn Tryz.prog 112 [.agg (eTNetwork a0), aI a1] [.c (.d (.b r))] := by
  refine fn_in Tryz.func112 rfl (by kernel_rfl) Tryz.ntmps112 rfl rfl rfl ?_
  refine wk ?_
  obtain ⟨r1, hr1, H⟩ := ob H
  refine awr_n rfl (ca rfl rfl rfl (iInRange_c hr1) trivial rfl rfl rfl rfl) ?_
  refine wk ?_
  obtain ⟨v2, Hj, H⟩ := ob H
  refine awr_join ⟨[(4, tB v2)], [], 0⟩ ?_ ?_
  · have H := Hj
    refine wk ?_
    refine g2 rfl rfl rfl (fun h => ?_) (fun h => ?_)
    · have H := bt h H
      refine wk ?_
      obtain ⟨r3, hr3, H⟩ := ob H
      refine awr_ng rfl rfl rfl rfl (ca rfl rfl rfl (iInRange_c hr3) trivial rfl rfl rfl rfl) ?_
      refine wk ?_
      cases H
      exact weak_of ⟨rfl, rfl, trivial⟩ trivial
    · have H := bf h H
      refine wk ?_
      cases H
      exact weak_of ⟨rfl, rfl, trivial⟩ trivial
  refine wk ?_
  cases H
  exact fin_ret (.cons (.tmp rfl) .nil) rfl rfl rfl
def iChargedBytes (a0 : TNetwork) (a1 : Int) : Option Int :=
  Option.bind (ihasAccount a0 a1) fun r1 => bif !r1 then (some (-1)) else (Option.bind (ix a0.Accounts a1) fun x2 => Option.bind (ix a0.Sessions a1) fun x3 => some (WR (x2.Spent + x3.Usage.Used)))
theorem iChargedBytes_c {a0 : TNetwork} {a1 : Int} {r : Int} (H : iChargedBytes a0 a1 = some r) : Fn Tryz.prog 113 [.agg (eTNetwork a0), aI a1] [.c (.d (.i .i64 r))] := by
  refine fn_in Tryz.func113 rfl (by kernel_rfl) Tryz.ntmps113 rfl rfl rfl ?_
  refine wkd ?_
  obtain ⟨r1, hr1, H⟩ := ob H
  refine awr_n rfl (ca rfl rfl rfl (ihasAccount_c hr1) trivial rfl rfl rfl rfl) ?_
  refine wkd ?_
  refine awc_cond rfl (fun h => ?_) (fun h => ?_)
  · have H := bt h H
    refine wkd ?_
    cases H
    exact fin_ret (.cons (.tmp rfl) .nil) rfl rfl rfl
  · have H := bf h H
    refine wkd ?_
    obtain ⟨x2, hx2, H⟩ := ob H
    refine dr_n rfl (xdT (enc := eTAccount) hx2 (fun _ => rfl) rfl rfl rfl) ?_
    refine wkd ?_
    obtain ⟨x3, hx3, H⟩ := ob H
    refine dr_n rfl (xdT (enc := eTSession) hx3 (fun _ => rfl) rfl rfl rfl) ?_
    refine wkd ?_
    cases H
    exact fin_ret (.cons (.tmp rfl) .nil) rfl rfl rfl
def ipayloadBytes_L1 (a0 : List TPayload) : (Int × Int) → Option (Step (Int × Int) (Int))
  | (v1, v2) => bif ltB v2 ((a0.length : Nat) : Int) then (Option.bind (ix a0 v2) fun x5 => some (.next (WR (v1 + ((x5.Data.length : Nat) : Int)), WR (v2 + 1)))) else (some (.done v1))
def ipayloadBytes (a0 : List TPayload) : Option Int :=
  Option.bind (iter (ipayloadBytes_L1 a0) FU (0, 0)) fun (v4 : Int) => some v4
theorem ipayloadBytes_c {a0 : List TPayload} {r : Int} (H : ipayloadBytes a0 = some r) : Fn Tryz.prog 177 [aL (a0.map eTPayload)] [.c (.d (.i .i64 r))] := by
  refine fn_in Tryz.func177 rfl (by kernel_rfl) Tryz.ntmps177 rfl rfl rfl ?_
  refine wk ?_
  obtain ⟨v4, Hj, H⟩ := ob H
  refine awc_jblk ⟨[(3, tI v4)], [], 0⟩ ?_ ?_
  · refine wk ?_
    refine awc_iter (fun (q : Int × Int) => ⟨[(3, tI q.1), (6, .v (.c (.d false (.l (a0.map eTPayload))))), (7, tI ((a0.length : Nat) : Int)), (8, tI q.2)], [], 0⟩) Hj (weak_of ⟨rfl, rfl, rfl, rfl, rfl, rfl, rfl, rfl, trivial⟩ trivial) ?_
    rintro ⟨v1, v2⟩ o H
    try dsimp only
    refine wk ?_
    refine awc_cond rfl (fun h => ?_) (fun h => ?_)
    · have H := bt h H
      refine wk ?_
      obtain ⟨x5, hx5, H⟩ := ob H
      refine awr_n rfl (xdT (enc := eTPayload) hx5 (fun _ => rfl) rfl rfl rfl) ?_
      refine wk ?_
      cases H
      refine iq_n ?_
      exact weak_of ⟨rfl, rfl, rfl, rfl, rfl, rfl, rfl, rfl, trivial⟩ trivial
    · have H := bf h H
      refine wk ?_
      cases H
      refine iq_e (fun hq => ?_)
      cases hq
      refine wk ?_
      exact weak_of ⟨rfl, rfl, trivial⟩ trivial
  refine wk ?_
  cases H
  exact fin_ret (.cons (.tmp rfl) .nil) rfl rfl rfl
def iMin (a0 : Int) (a1 : Int) : Option Int :=
  bif ltB a1 a0 then (some a1) else (some a0)
theorem iMin_c {a0 : Int} {a1 : Int} {r : Int} (H : iMin a0 a1 = some r) : Fn Tryz.prog 178 [aI a0, aI a1] [.c (.d (.i .i64 r))] := by
  refine fn_in Tryz.func178 rfl (by kernel_rfl) Tryz.ntmps178 rfl rfl rfl ?_
  refine wk ?_
  refine awc_cond rfl (fun h => ?_) (fun h => ?_)
  · have H := bt h H
    refine wk ?_
    cases H
    exact fin_ret (.cons (.tmp rfl) .nil) rfl rfl rfl
  · have H := bf h H
    refine wk ?_
    cases H
    exact fin_ret (.cons (.tmp rfl) .nil) rfl rfl rfl
def iMax (a0 : Int) (a1 : Int) : Option Int :=
  bif ltB a0 a1 then (some a1) else (some a0)
theorem iMax_c {a0 : Int} {a1 : Int} {r : Int} (H : iMax a0 a1 = some r) : Fn Tryz.prog 179 [aI a0, aI a1] [.c (.d (.i .i64 r))] := by
  refine fn_in Tryz.func179 rfl (by kernel_rfl) Tryz.ntmps179 rfl rfl rfl ?_
  refine wk ?_
  refine awc_cond rfl (fun h => ?_) (fun h => ?_)
  · have H := bt h H
    refine wk ?_
    cases H
    exact fin_ret (.cons (.tmp rfl) .nil) rfl rfl rfl
  · have H := bf h H
    refine wk ?_
    cases H
    exact fin_ret (.cons (.tmp rfl) .nil) rfl rfl rfl
def iBytesOfFirst (a0 : TSession) (a1 : Int) : Option Int :=
  Option.bind (iMax a1 0) fun r1 => Option.bind (iMin r1 ((a0.Submitted.length : Nat) : Int)) fun r2 => bif slOk a0.Submitted 0 r2 then (Option.bind (ipayloadBytes (a0.Submitted.take (r2).toNat)) fun r3 => some r3) else none
theorem iBytesOfFirst_c {a0 : TSession} {a1 : Int} {r : Int} (H : iBytesOfFirst a0 a1 = some r) : Fn Tryz.prog 114 [.agg (eTSession a0), aI a1] [.c (.d (.i .i64 r))] := by
  refine fn_in Tryz.func114 rfl (by kernel_rfl) Tryz.ntmps114 rfl rfl rfl ?_
  refine wkd ?_
  obtain ⟨r1, hr1, H⟩ := ob H
  refine dr_n rfl (ca rfl rfl rfl (iMax_c hr1) trivial rfl rfl rfl rfl) ?_
  refine wkd ?_
  obtain ⟨r2, hr2, H⟩ := ob H
  refine dr_n rfl (ca rfl rfl rfl (iMin_c hr2) trivial rfl rfl rfl rfl) ?_
  refine wkd ?_
  obtain ⟨h, H⟩ := rq H
  refine dr_n rfl (cdhT (enc := eTPayload) h (fun _ => rfl) rfl rfl rfl) ?_
  refine wkd ?_
  obtain ⟨r3, hr3, H⟩ := ob H
  refine dr_n rfl (ca rfl rfl rfl (ipayloadBytes_c hr3) trivial rfl rfl rfl rfl) ?_
  refine wkd ?_
  cases H
  exact fin_ret (.cons (.tmp rfl) .nil) rfl rfl rfl
def iAcknowledgedPackets (a0 : TSession) : Option Int :=
  some (WR ((WR (a0.Window.Next - 1)) - ((a0.Window.Unacked.length : Nat) : Int)))
theorem iAcknowledgedPackets_c {a0 : TSession} {r : Int} (H : iAcknowledgedPackets a0 = some r) : Fn Tryz.prog 115 [.agg (eTSession a0)] [.c (.d (.i .i64 r))] := by
  refine fn_in Tryz.func115 rfl (by kernel_rfl) Tryz.ntmps115 rfl rfl rfl ?_
  refine wk ?_
  cases H
  exact fin_ret (.cons (.tmp rfl) .nil) rfl rfl rfl
def iChargedExactlyOnce (a0 : TNetwork) (a1 : Int) : Option Bool :=
  Option.bind (ihasAccount a0 a1) fun r1 => bif !r1 then (some false) else (Option.bind (ix a0.Sessions a1) fun x2 => Option.bind (iChargedBytes a0 a1) fun r3 => Option.bind (iAcknowledgedPackets x2) fun r4 => Option.bind (iBytesOfFirst x2 r4) fun r5 => some (eqB r3 r5))
theorem iChargedExactlyOnce_c {a0 : TNetwork} {a1 : Int} {r : Bool} (H : iChargedExactlyOnce a0 a1 = some r) : Fn Tryz.prog 63 [.agg (eTNetwork a0), aI a1] [.c (.d (.b r))] := by
  refine fn_in Tryz.func63 rfl (by kernel_rfl) Tryz.ntmps63 rfl rfl rfl ?_
  refine wkd ?_
  obtain ⟨r1, hr1, H⟩ := ob H
  refine awr_n rfl (ca rfl rfl rfl (ihasAccount_c hr1) trivial rfl rfl rfl rfl) ?_
  refine wkd ?_
  refine awc_cond rfl (fun h => ?_) (fun h => ?_)
  · have H := bt h H
    refine wkd ?_
    cases H
    exact fin_ret (.cons (.tmp rfl) .nil) rfl rfl rfl
  · have H := bf h H
    refine wkd ?_
    obtain ⟨x2, hx2, H⟩ := ob H
    refine awr_n rfl (xdT (enc := eTSession) hx2 (fun _ => rfl) rfl rfl rfl) ?_
    refine wkd ?_
    obtain ⟨r3, hr3, H⟩ := ob H
    refine dr_n rfl (ca rfl rfl rfl (iChargedBytes_c hr3) trivial rfl rfl rfl rfl) ?_
    refine wkd ?_
    obtain ⟨r4, hr4, H⟩ := ob H
    refine dr_n rfl (ca rfl rfl rfl (iAcknowledgedPackets_c hr4) trivial rfl rfl rfl rfl) ?_
    refine wkd ?_
    obtain ⟨r5, hr5, H⟩ := ob H
    refine dr_n rfl (ca rfl rfl rfl (iBytesOfFirst_c hr5) trivial rfl rfl rfl rfl) ?_
    refine wkd ?_
    cases H
    exact fin_ret (.cons (.tmp rfl) .nil) rfl rfl rfl
def iAcknowledgedWereDelivered (a0 : TNetwork) (a1 : Int) : Option Bool :=
  Option.bind (ihasDevice a0 a1) fun r1 => Option.bind (bif r1 then (Option.bind (ix a0.Sessions a1) fun x3 => Option.bind (iAcknowledgedPackets x3) fun r4 => Option.bind (ix a0.Devices a1) fun x5 => some (leB r4 ((x5.Receiver.Delivered.length : Nat) : Int))) else (some false)) fun (v2 : Bool) => some v2
theorem iAcknowledgedWereDelivered_c {a0 : TNetwork} {a1 : Int} {r : Bool} (H : iAcknowledgedWereDelivered a0 a1 = some r) : Fn Tryz.prog 64 [.agg (eTNetwork a0), aI a1] [.c (.d (.b r))] := by
  refine fn_in Tryz.func64 rfl (by kernel_rfl) Tryz.ntmps64 rfl rfl rfl ?_
  refine wkd ?_
  obtain ⟨r1, hr1, H⟩ := ob H
  refine dr_n rfl (ca rfl rfl rfl (ihasDevice_c hr1) trivial rfl rfl rfl rfl) ?_
  refine wkd ?_
  obtain ⟨v2, Hj, H⟩ := ob H
  refine dr_join ⟨[(4, tB v2)], [], 0⟩ ?_ ?_
  · have H := Hj
    refine wkd ?_
    refine dg2 rfl rfl rfl (fun h => ?_) (fun h => ?_)
    · have H := bt h H
      refine wkd ?_
      obtain ⟨x3, hx3, H⟩ := ob H
      refine dr_ng rfl rfl rfl rfl (xdT (enc := eTSession) hx3 (fun _ => rfl) rfl rfl rfl) ?_
      refine wkd ?_
      obtain ⟨r4, hr4, H⟩ := ob H
      refine dr_ng rfl rfl rfl rfl (ca rfl rfl rfl (iAcknowledgedPackets_c hr4) trivial rfl rfl rfl rfl) ?_
      refine wkd ?_
      obtain ⟨x5, hx5, H⟩ := ob H
      refine dr_ng rfl rfl rfl rfl (xdT (enc := eTDevice) hx5 (fun _ => rfl) rfl rfl rfl) ?_
      refine wkd ?_
      cases H
      exact weak_of ⟨rfl, rfl, trivial⟩ trivial
    · have H := bf h H
      refine wkd ?_
      cases H
      exact weak_of ⟨rfl, rfl, trivial⟩ trivial
  refine wkd ?_
  cases H
  exact fin_ret (.cons (.tmp rfl) .nil) rfl rfl rfl
def iAudit_L1 (a0 : TNetwork) : Int → Option (Step (Int) (Bool))
  | v2 => bif ltB v2 ((a0.Devices.length : Nat) : Int) then (Option.bind (iDeliveredInOrder a0 v2) fun r3 => Option.bind (bif !r3 then (some true) else (Option.bind (iChargedExactlyOnce a0 v2) fun r5 => bif !r5 then (some true) else (Option.bind (iAcknowledgedWereDelivered a0 v2) fun r6 => some (!r6)))) fun (v4 : Bool) => bif v4 then (dn (some false)) else (some (.next (WR (v2 + 1))))) else (dn (some true))
def iAudit (a0 : TNetwork) : Option Bool :=
  Option.bind (iIsValidNetwork a0) fun r1 => bif !r1 then (some false) else (iter (iAudit_L1 a0) FU 0)
theorem iAudit_c {a0 : TNetwork} {r : Bool} (H : iAudit a0 = some r) : Fn Tryz.prog 25 [.agg (eTNetwork a0)] [.c (.d (.b r))] := by
  refine fn_in Tryz.func25 rfl (by kernel_rfl) Tryz.ntmps25 rfl rfl rfl ?_
  refine wk ?_
  obtain ⟨r1, hr1, H⟩ := ob H
  refine awr_n rfl (ca rfl rfl rfl (iIsValidNetwork_c hr1) trivial rfl rfl rfl rfl) ?_
  refine wk ?_
  refine awc_cond rfl (fun h => ?_) (fun h => ?_)
  · have H := bt h H
    refine wk ?_
    cases H
    exact fin_ret (.cons (.tmp rfl) .nil) rfl rfl rfl
  · have H := bf h H
    refine wk ?_
    refine awc_iter (fun (q : Int) => ⟨[(1, .v (.c (.p 0 0))), (9, tI ((a0.Devices.length : Nat) : Int)), (10, tI q)], [(0, .var 47 [.d false (.l (a0.Map.Cells.map eTCell)), .d false (.l (a0.Devices.map eTDevice)), .d false (.l (a0.Sessions.map eTSession)), .d false (.l (a0.Accounts.map eTAccount)), .d false (.l (a0.Flights.map eTFlight)), .d false (.i .i64 a0.DownCells), .d false (.i .i64 a0.Core.Size), .d false (.i .i64 a0.Core.UpMask), .d false (.i .i64 a0.Now), .d false (.i .i64 a0.Lost)])], 1⟩) H (weak_of ⟨rfl, rfl, rfl, rfl, rfl, rfl, trivial⟩ ⟨rfl, ⟨rfl, rfl⟩, trivial⟩) ?_
    rintro v2 o H
    try dsimp only
    refine wk ?_
    refine awc_cond rfl (fun h => ?_) (fun h => ?_)
    · have H := bt h H
      refine wk ?_
      obtain ⟨r3, hr3, H⟩ := ob H
      refine awr_n rfl (ca rfl rfl rfl (iDeliveredInOrder_c hr3) trivial rfl rfl rfl rfl) ?_
      refine wk ?_
      obtain ⟨v4, Hj, H⟩ := ob H
      refine awr_join ⟨[(1, .v (.c (.p 0 0))), (9, tI ((a0.Devices.length : Nat) : Int)), (10, tI v2), (28, tB v4)], [(0, .var 47 [.d false (.l (a0.Map.Cells.map eTCell)), .d false (.l (a0.Devices.map eTDevice)), .d false (.l (a0.Sessions.map eTSession)), .d false (.l (a0.Accounts.map eTAccount)), .d false (.l (a0.Flights.map eTFlight)), .d false (.i .i64 a0.DownCells), .d false (.i .i64 a0.Core.Size), .d false (.i .i64 a0.Core.UpMask), .d false (.i .i64 a0.Now), .d false (.i .i64 a0.Lost)])], 1⟩ ?_ ?_
      · have H := Hj
        refine wk ?_
        refine g2 rfl rfl rfl (fun h => ?_) (fun h => ?_)
        · have H := bt h H
          refine wk ?_
          cases H
          exact weak_of ⟨rfl, rfl, rfl, rfl, rfl, rfl, rfl, rfl, trivial⟩ ⟨rfl, ⟨rfl, rfl⟩, trivial⟩
        · have H := bf h H
          refine wk ?_
          obtain ⟨r5, hr5, H⟩ := ob H
          refine awr_ng rfl rfl rfl rfl (ca rfl rfl rfl (iChargedExactlyOnce_c hr5) trivial rfl rfl rfl rfl) ?_
          refine wk ?_
          refine g2 rfl rfl rfl (fun h => ?_) (fun h => ?_)
          · have H := bt h H
            refine wk ?_
            cases H
            exact weak_of ⟨rfl, rfl, rfl, rfl, rfl, rfl, rfl, rfl, trivial⟩ ⟨rfl, ⟨rfl, rfl⟩, trivial⟩
          · have H := bf h H
            refine wk ?_
            obtain ⟨r6, hr6, H⟩ := ob H
            refine awr_ng rfl rfl rfl rfl (ca rfl rfl rfl (iAcknowledgedWereDelivered_c hr6) trivial rfl rfl rfl rfl) ?_
            refine wk ?_
            cases H
            exact weak_of ⟨rfl, rfl, rfl, rfl, rfl, rfl, rfl, rfl, trivial⟩ ⟨rfl, ⟨rfl, rfl⟩, trivial⟩
      refine wk ?_
      refine awc_cond rfl (fun h => ?_) (fun h => ?_)
      · have H := bt h H
        refine wk ?_
        obtain ⟨r0, Hd, rfl⟩ := dnE H
        refine iq_r (fun hq => ?_)
        have H := Hd.trans (congrArg some hq)
        refine wk ?_
        cases H
        exact fin_ret (.cons (.tmp rfl) .nil) rfl rfl rfl
      · have H := bf h H
        refine wk ?_
        cases H
        refine iq_n ?_
        exact weak_of ⟨rfl, rfl, rfl, rfl, rfl, rfl, trivial⟩ ⟨rfl, ⟨rfl, rfl⟩, trivial⟩
    · have H := bf h H
      refine wk ?_
      obtain ⟨r0, Hd, rfl⟩ := dnE H
      refine iq_e (fun hq => ?_)
      have H := Hd.trans (congrArg some hq)
      refine wk ?_
      cases H
      exact fin_ret (.cons (.tmp rfl) .nil) rfl rfl rfl
end Go.AM
