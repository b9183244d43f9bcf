/-
  Own text: a part of the abstract machine for this seat (Nbi). No statement is proved here.
-/
import Derived.Test.YtlpclccdbmoemaaGreatNbg
set_option linter.unusedVariables false
namespace Go.AM
open Go.Proofs
attribute [local irreducible] AWN NS AWO AWR AWC DR Weak iterQ
set_option maxRecDepth 100000
set_option maxHeartbeats 4000000
def iInRange (a0 : Int) (a1 : Int) (a2 : Int) : Option Bool :=
  Option.bind (bif leB a1 a0 then (some (leB a0 a2)) else (some false)) fun (v1 : Bool) => some v1
theorem iInRange_c {a0 : Int} {a1 : Int} {a2 : Int} {r : Bool} (H : iInRange a0 a1 a2 = some r) : Fn Tryz.prog 38 [aI a0, aI a1, aI a2] [.c (.d (.b r))] := by
  refine fn_in Tryz.func38 rfl (by kernel_rfl) Tryz.ntmps38 rfl rfl rfl ?_
  refine wk ?_
  obtain ⟨v1, Hj, H⟩ := ob H
  refine awr_join ⟨[(6, tB v1)], [], 0⟩ ?_ ?_
  · have H := Hj
    refine wk ?_
    refine g2 rfl rfl rfl (fun h => ?_) (fun h => ?_)
    · have H := bt h H
      refine wk ?_
      cases H
      exact weak_of ⟨rfl, rfl, trivial⟩ trivial
    · have H := bf h H
      refine wk ?_
      cases H
      exact weak_of ⟨rfl, rfl, trivial⟩ trivial
  refine wk ?_
  cases H
  exact fin_ret (.cons (.tmp rfl) .nil) rfl rfl rfl
def iisCell (a0 : TCellMap) (a1 : Int) : Option Bool :=
  Option.bind (iInRange a1 0 (WR (((a0.Cells.length : Nat) : Int) - 1))) fun r1 => some r1
theorem iisCell_c {a0 : TCellMap} {a1 : Int} {r : Bool} (H : iisCell a0 a1 = some r) : Fn Tryz.prog 39 [.agg (eTCellMap a0), aI a1] [.c (.d (.b r))] := by
  refine fn_in Tryz.func39 rfl (by kernel_rfl) Tryz.ntmps39 rfl rfl rfl ?_
  refine wk ?_
  obtain ⟨r1, hr1, H⟩ := ob H
  refine awr_n rfl (ca rfl rfl rfl (iInRange_c hr1) trivial rfl rfl rfl rfl) ?_
  refine wk ?_
  cases H
  exact fin_ret (.cons (.tmp rfl) .nil) rfl rfl rfl
def iisAscending_L1 (a0 : List Int) : Int → Option (Step (Int) (Bool))
  | v1 => bif ltB v1 ((a0.length : Nat) : Int) then (Option.bind (ix a0 (WR (v1 - 1))) fun x2 => Option.bind (ix a0 v1) fun x3 => bif leB x3 x2 then (dn (some false)) else (some (.next (WR (v1 + 1))))) else (dn (some true))
def iisAscending (a0 : List Int) : Option Bool :=
  iter (iisAscending_L1 a0) FU 1
theorem iisAscending_c {a0 : List Int} {r : Bool} (H : iisAscending a0 = some r) : Fn Tryz.prog 50 [aL (a0.map eI)] [.c (.d (.b r))] := by
  refine fn_in Tryz.func50 rfl (by kernel_rfl) Tryz.ntmps50 rfl rfl rfl ?_
  refine wkd ?_
  refine awc_iter (fun (q : Int) => ⟨[(0, .v (.c (.d false (.l (a0.map eI))))), (3, tI q)], [], 0⟩) H (weak_of ⟨rfl, rfl, rfl, rfl, trivial⟩ trivial) ?_
  rintro v1 o H
  try dsimp only
  refine wkd ?_
  refine awc_cond rfl (fun h => ?_) (fun h => ?_)
  · have H := bt h H
    refine wkd ?_
    obtain ⟨x2, hx2, H⟩ := ob H
    refine dr_n rfl (xdT (enc := eI) hx2 (fun _ => rfl) rfl rfl rfl) ?_
    refine wkd ?_
    obtain ⟨x3, hx3, H⟩ := ob H
    refine dr_n rfl (xdT (enc := eI) hx3 (fun _ => rfl) rfl rfl rfl) ?_
    refine wkd ?_
    refine awc_cond rfl (fun h => ?_) (fun h => ?_)
    · have H := bt h H
      refine wkd ?_
      obtain ⟨r0, Hd, rfl⟩ := dnE H
      refine iq_r (fun hq => ?_)
      have H := Hd.trans (congrArg some hq)
      refine wkd ?_
      cases H
      exact fin_ret (.cons (.tmp rfl) .nil) rfl rfl rfl
    · have H := bf h H
      refine wkd ?_
      cases H
      refine iq_n ?_
      exact weak_of ⟨rfl, rfl, rfl, rfl, trivial⟩ trivial
  · have H := bf h H
    refine wkd ?_
    obtain ⟨r0, Hd, rfl⟩ := dnE H
    refine iq_e (fun hq => ?_)
    have H := Hd.trans (congrArg some hq)
    refine wkd ?_
    cases H
    exact fin_ret (.cons (.tmp rfl) .nil) rfl rfl rfl
def iAreNeighbors (a0 : TCellMap) (a1 : Int) (a2 : Int) : Option Bool :=
  Option.bind (iisCell a0 a1) fun r1 => Option.bind (bif r1 then (Option.bind (ix a0.Cells a1) fun x3 => Option.bind (gslices_Contains_int_int x3.Neighbors a2) fun r4 => some r4) else (some false)) fun (v2 : Bool) => some v2
theorem iAreNeighbors_c {a0 : TCellMap} {a1 : Int} {a2 : Int} {r : Bool} (H : iAreNeighbors a0 a1 a2 = some r) : Fn Tryz.prog 51 [.agg (eTCellMap a0), aI a1, aI a2] [.c (.d (.b r))] := by
  refine fn_in Tryz.func51 rfl (by kernel_rfl) Tryz.ntmps51 rfl rfl rfl ?_
  refine wk ?_
  obtain ⟨r1, hr1, H⟩ := ob H
  refine awr_n rfl (ca rfl rfl rfl (iisCell_c hr1) trivial rfl rfl rfl rfl) ?_
  refine wk ?_
  obtain ⟨v2, Hj, H⟩ := ob H
  refine awr_join ⟨[(6, tB v2)], [], 0⟩ ?_ ?_
  · have H := Hj
    refine wk ?_
    refine g2 rfl rfl rfl (fun h => ?_) (fun h => ?_)
    · have H := bt h H
      refine wk ?_
      obtain ⟨x3, hx3, H⟩ := ob H
      refine awr_ng rfl rfl rfl rfl (xdT (enc := eTCell) hx3 (fun _ => rfl) rfl rfl rfl) ?_
      refine wk ?_
      obtain ⟨r4, hr4, H⟩ := ob H
      refine awr_ng rfl rfl rfl rfl (ca rfl rfl rfl (gslices_Contains_int_int_c hr4) trivial rfl rfl rfl rfl) ?_
      refine wk ?_
      cases H
      exact weak_of ⟨rfl, rfl, trivial⟩ trivial
    · have H := bf h H
      refine wk ?_
      cases H
      exact weak_of ⟨rfl, rfl, trivial⟩ trivial
  refine wk ?_
  cases H
  exact fin_ret (.cons (.tmp rfl) .nil) rfl rfl rfl
def iIsValidMap_L2 (a0 : TCellMap) (v2 : Int) (x3 : TCell) : Int → Option (Step (Int) (Step (Int) (Bool)))
  | v7 => bif ltB v7 ((x3.Neighbors.length : Nat) : Int) then (Option.bind (ix x3.Neighbors v7) fun x8 => Option.bind (bif eqB x8 v2 then (some true) else (Option.bind (iisCell a0 x8) fun r10 => bif !r10 then (some true) else (Option.bind (iAreNeighbors a0 x8 v2) fun r11 => some (!r11)))) fun (v9 : Bool) => bif v9 then (dn (dn (some false))) else (some (.next (WR (v7 + 1))))) else (dn (some (.next (WR (v2 + 1)))))
def iIsValidMap_L1 (a0 : TCellMap) : Int → Option (Step (Int) (Bool))
  | v2 => bif ltB v2 ((a0.Cells.length : Nat) : Int) then (Option.bind (ix a0.Cells v2) fun x3 => Option.bind (iInRange x3.Area 0 2) fun r4 => Option.bind (bif !r4 then (some true) else (Option.bind (iisAscending x3.Neighbors) fun r6 => some (!r6))) fun (v5 : Bool) => bif v5 then (dn (some false)) else (iter (iIsValidMap_L2 a0 v2 x3) FU 0)) else (dn (some true))
def iIsValidMap (a0 : TCellMap) : Option Bool :=
  Option.bind (iInRange ((a0.Cells.length : Nat) : Int) 1 6) fun r1 => bif !r1 then (some false) else (iter (iIsValidMap_L1 a0) FU 0)
theorem iIsValidMap_c {a0 : TCellMap} {r : Bool} (H : iIsValidMap a0 = some r) : Fn Tryz.prog 19 [.agg (eTCellMap a0)] [.c (.d (.b r))] := by
  refine fn_in Tryz.func19 rfl (by kernel_rfl) Tryz.ntmps19 rfl rfl rfl ?_
  refine wk ?_
  obtain ⟨r1, hr1, H⟩ := ob H
  refine awr_n rfl (ca rfl rfl rfl (iInRange_c hr1) trivial rfl rfl rfl rfl) ?_
  refine wk ?_
  refine awc_cond rfl (fun h => ?_) (fun h => ?_)
  · have H := bt h H
    refine wk ?_
    cases H
    exact fin_ret (.cons (.tmp rfl) .nil) rfl rfl rfl
  · have H := bf h H
    refine wk ?_
    refine awc_iter (fun (q : Int) => ⟨[(1, .v (.c (.p 0 0))), (13, .v (.c (.d false (.l (a0.Cells.map eTCell))))), (14, tI ((a0.Cells.length : Nat) : Int)), (15, tI q)], [(0, .var 26 [.d false (.l (a0.Cells.map eTCell))])], 1⟩) H (weak_of ⟨rfl, rfl, rfl, rfl, rfl, rfl, rfl, rfl, trivial⟩ ⟨rfl, ⟨rfl, rfl⟩, trivial⟩) ?_
    rintro v2 o H
    try dsimp only
    refine wk ?_
    refine awc_cond rfl (fun h => ?_) (fun h => ?_)
    · have H := bt h H
      refine wk ?_
      obtain ⟨x3, hx3, H⟩ := ob H
      refine awr_n rfl (xdT (enc := eTCell) hx3 (fun _ => rfl) rfl rfl rfl) ?_
      refine wk ?_
      obtain ⟨r4, hr4, H⟩ := ob H
      refine awr_n rfl (ca rfl rfl rfl (iInRange_c hr4) trivial rfl rfl rfl rfl) ?_
      refine wk ?_
      obtain ⟨v5, Hj, H⟩ := ob H
      refine awr_join ⟨[(1, .v (.c (.p 0 0))), (3, tI v2), (4, .v (.c (.p 1 0))), (13, .v (.c (.d false (.l (a0.Cells.map eTCell))))), (14, tI ((a0.Cells.length : Nat) : Int)), (15, tI v2), (29, tB v5)], [(0, .var 26 [.d false (.l (a0.Cells.map eTCell))]), (1, .var 102 [.d false (.i .i64 x3.Area), .d false (.l (x3.Neighbors.map eI))])], 2⟩ ?_ ?_
      · have H := Hj
        refine wk ?_
        refine g2 rfl rfl rfl (fun h => ?_) (fun h => ?_)
        · have H := bt h H
          refine wk ?_
          cases H
          exact weak_of ⟨rfl, rfl, rfl, rfl, rfl, rfl, rfl, rfl, rfl, rfl, rfl, rfl, rfl, rfl, trivial⟩ ⟨rfl, ⟨rfl, rfl⟩, rfl, ⟨rfl, rfl⟩, trivial⟩
        · have H := bf h H
          refine wk ?_
          obtain ⟨r6, hr6, H⟩ := ob H
          refine awr_ng rfl rfl rfl rfl (ca rfl rfl rfl (iisAscending_c hr6) trivial rfl rfl rfl rfl) ?_
          refine wk ?_
          cases H
          exact weak_of ⟨rfl, rfl, rfl, rfl, rfl, rfl, rfl, rfl, rfl, rfl, rfl, rfl, rfl, rfl, trivial⟩ ⟨rfl, ⟨rfl, rfl⟩, rfl, ⟨rfl, rfl⟩, trivial⟩
      refine wk ?_
      refine awc_cond rfl (fun h => ?_) (fun h => ?_)
      · have H := bt h H
        refine wk ?_
        obtain ⟨r0, Hd, rfl⟩ := dnE H
        refine iq_r (fun hq => ?_)
        have H := Hd.trans (congrArg some hq)
        refine wk ?_
        cases H
        exact fin_ret (.cons (.tmp rfl) .nil) rfl rfl rfl
      · have H := bf h H
        refine wk ?_
        refine awc_iter (fun (q : Int) => ⟨[(1, .v (.c (.p 0 0))), (3, tI v2), (13, .v (.c (.d false (.l (a0.Cells.map eTCell))))), (14, tI ((a0.Cells.length : Nat) : Int)), (15, tI v2), (31, .v (.c (.d false (.l (x3.Neighbors.map eI))))), (32, tI ((x3.Neighbors.length : Nat) : Int)), (33, tI q)], [(0, .var 26 [.d false (.l (a0.Cells.map eTCell))])], 1⟩) H (weak_of ⟨rfl, rfl, rfl, rfl, rfl, rfl, rfl, rfl, rfl, rfl, rfl, rfl, rfl, rfl, rfl, rfl, trivial⟩ ⟨rfl, ⟨rfl, rfl⟩, trivial⟩) ?_
        rintro v7 o H
        try dsimp only
        refine wk ?_
        refine awc_cond rfl (fun h => ?_) (fun h => ?_)
        · have H := bt h H
          refine wk ?_
          obtain ⟨x8, hx8, H⟩ := ob H
          refine awr_n rfl (xdT (enc := eI) hx8 (fun _ => rfl) rfl rfl rfl) ?_
          refine wk ?_
          obtain ⟨v9, Hj, H⟩ := ob H
          refine awr_join ⟨[(1, .v (.c (.p 0 0))), (3, tI v2), (13, .v (.c (.d false (.l (a0.Cells.map eTCell))))), (14, tI ((a0.Cells.length : Nat) : Int)), (15, tI v2), (31, .v (.c (.d false (.l (x3.Neighbors.map eI))))), (32, tI ((x3.Neighbors.length : Nat) : Int)), (33, tI v7), (52, tB v9)], [(0, .var 26 [.d false (.l (a0.Cells.map eTCell))])], 1⟩ ?_ ?_
          · have H := Hj
            refine wk ?_
            refine g2 rfl rfl rfl (fun h => ?_) (fun h => ?_)
            · have H := bt h H
              refine wk ?_
              cases H
              exact weak_of ⟨rfl, rfl, rfl, rfl, rfl, rfl, rfl, rfl, rfl, rfl, rfl, rfl, rfl, rfl, rfl, rfl, rfl, rfl, trivial⟩ ⟨rfl, ⟨rfl, rfl⟩, trivial⟩
            · have H := bf h H
              refine wk ?_
              obtain ⟨r10, hr10, H⟩ := ob H
              refine awr_ng rfl rfl rfl rfl (ca rfl rfl rfl (iisCell_c hr10) trivial rfl rfl rfl rfl) ?_
              refine wk ?_
              refine g2 rfl rfl rfl (fun h => ?_) (fun h => ?_)
              · have H := bt h H
                refine wk ?_
                cases H
                exact weak_of ⟨rfl, rfl, rfl, rfl, rfl, rfl, rfl, rfl, rfl, rfl, rfl, rfl, rfl, rfl, rfl, rfl, rfl, rfl, trivial⟩ ⟨rfl, ⟨rfl, rfl⟩, trivial⟩
              · have H := bf h H
                refine wk ?_
                obtain ⟨r11, hr11, H⟩ := ob H
                refine awr_ng rfl rfl rfl rfl (ca rfl rfl rfl (iAreNeighbors_c hr11) trivial rfl rfl rfl rfl) ?_
                refine wk ?_
                cases H
                exact weak_of ⟨rfl, rfl, rfl, rfl, rfl, rfl, rfl, rfl, rfl, rfl, rfl, rfl, rfl, rfl, rfl, rfl, rfl, rfl, trivial⟩ ⟨rfl, ⟨rfl, rfl⟩, trivial⟩
          refine wk ?_
          refine awc_cond rfl (fun h => ?_) (fun h => ?_)
          · have H := bt h H
            refine wk ?_
            obtain ⟨r0, Hd, rfl⟩ := dnE H
            refine iq_r (fun hq => ?_)
            have H := Hd.trans (congrArg some hq)
            refine wk ?_
            obtain ⟨r0, Hd, rfl⟩ := dnE H
            refine iq_r (fun hq => ?_)
            have H := Hd.trans (congrArg some hq)
            refine wk ?_
            cases H
            exact fin_ret (.cons (.tmp rfl) .nil) rfl rfl rfl
          · have H := bf h H
            refine wk ?_
            cases H
            refine iq_n ?_
            exact weak_of ⟨rfl, rfl, rfl, rfl, rfl, rfl, rfl, rfl, rfl, rfl, rfl, rfl, rfl, rfl, rfl, rfl, trivial⟩ ⟨rfl, ⟨rfl, rfl⟩, trivial⟩
        · have H := bf h H
          refine wk ?_
          obtain ⟨r0, Hd, rfl⟩ := dnE H
          refine iq_e (fun hq => ?_)
          have H := Hd.trans (congrArg some hq)
          refine wk ?_
          cases H
          refine iq_n ?_
          exact weak_of ⟨rfl, rfl, rfl, rfl, rfl, rfl, rfl, rfl, trivial⟩ ⟨rfl, ⟨rfl, rfl⟩, trivial⟩
    · have H := bf h H
      refine wk ?_
      obtain ⟨r0, Hd, rfl⟩ := dnE H
      refine iq_e (fun hq => ?_)
      have H := Hd.trans (congrArg some hq)
      refine wk ?_
      cases H
      exact fin_ret (.cons (.tmp rfl) .nil) rfl rfl rfl
def iIsValidSubscription_L1 (a0 : TSubscription) : Int → Option (Step (Int) (Bool))
  | v5 => bif ltB v5 ((a0.RoamingNetworks.length : Nat) : Int) then (Option.bind (ix a0.RoamingNetworks v5) fun x6 => Option.bind (iInRange x6 0 3) fun r7 => bif !r7 then (dn (some false)) else (some (.next (WR (v5 + 1))))) else (dn (Option.bind (iisAscending a0.RoamingNetworks) fun r8 => some r8))
def iIsValidSubscription (a0 : TSubscription) : Option Bool :=
  Option.bind (iInRange a0.RateLimit 1 1000) fun r1 => Option.bind (bif !r1 then (some true) else (Option.bind (iInRange a0.BestClass 1 4) fun r3 => bif !r3 then (some true) else (Option.bind (iInRange a0.GrantSize 1 100000) fun r4 => some (!r4)))) fun (v2 : Bool) => bif v2 then (some false) else (iter (iIsValidSubscription_L1 a0) FU 0)
theorem iIsValidSubscription_c {a0 : TSubscription} {r : Bool} (H : iIsValidSubscription a0 = some r) : Fn Tryz.prog 20 [.agg (eTSubscription a0)] [.c (.d (.b r))] := by
  refine fn_in Tryz.func20 rfl (by kernel_rfl) Tryz.ntmps20 rfl rfl rfl ?_
  refine wk ?_
  obtain ⟨r1, hr1, H⟩ := ob H
  refine awr_n rfl (ca rfl rfl rfl (iInRange_c hr1) trivial rfl rfl rfl rfl) ?_
  refine wk ?_
  obtain ⟨v2, Hj, H⟩ := ob H
  refine awr_join ⟨[(1, .v (.c (.p 0 0))), (20, tB v2)], [(0, .var 30 [.d false (.i .i64 a0.RateLimit), .d false (.i .i64 a0.BestClass), .d false (.i .i64 a0.GrantSize), .d false (.l (a0.RoamingNetworks.map eI))])], 1⟩ ?_ ?_
  · have H := Hj
    refine wk ?_
    refine g2 rfl rfl rfl (fun h => ?_) (fun h => ?_)
    · have H := bt h H
      refine wk ?_
      cases H
      exact weak_of ⟨rfl, rfl, rfl, rfl, trivial⟩ ⟨rfl, ⟨rfl, rfl⟩, trivial⟩
    · have H := bf h H
      refine wk ?_
      obtain ⟨r3, hr3, H⟩ := ob H
      refine awr_ng rfl rfl rfl rfl (ca rfl rfl rfl (iInRange_c hr3) trivial rfl rfl rfl rfl) ?_
      refine wk ?_
      refine g2 rfl rfl rfl (fun h => ?_) (fun h => ?_)
      · have H := bt h H
        refine wk ?_
        cases H
        exact weak_of ⟨rfl, rfl, rfl, rfl, trivial⟩ ⟨rfl, ⟨rfl, rfl⟩, trivial⟩
      · have H := bf h H
        refine wk ?_
        obtain ⟨r4, hr4, H⟩ := ob H
        refine awr_ng rfl rfl rfl rfl (ca rfl rfl rfl (iInRange_c hr4) trivial rfl rfl rfl rfl) ?_
        refine wk ?_
        cases H
        exact weak_of ⟨rfl, rfl, rfl, rfl, trivial⟩ ⟨rfl, ⟨rfl, rfl⟩, trivial⟩
  refine wk ?_
  refine awc_cond rfl (fun h => ?_) (fun h => ?_)
  · have H := bt h H
    refine wk ?_
    cases H
    exact fin_ret (.cons (.tmp rfl) .nil) rfl rfl rfl
  · have H := bf h H
    refine wk ?_
    refine awc_iter (fun (q : Int) => ⟨[(1, .v (.c (.p 0 0))), (22, .v (.c (.d false (.l (a0.RoamingNetworks.map eI))))), (23, tI ((a0.RoamingNetworks.length : Nat) : Int)), (24, tI q)], [(0, .var 30 [.d false (.i .i64 a0.RateLimit), .d false (.i .i64 a0.BestClass), .d false (.i .i64 a0.GrantSize), .d false (.l (a0.RoamingNetworks.map eI))])], 1⟩) H (weak_of ⟨rfl, rfl, rfl, rfl, rfl, rfl, rfl, rfl, trivial⟩ ⟨rfl, ⟨rfl, rfl⟩, trivial⟩) ?_
    rintro v5 o H
    try dsimp only
    refine wk ?_
    refine awc_cond rfl (fun h => ?_) (fun h => ?_)
    · have H := bt h H
      refine wk ?_
      obtain ⟨x6, hx6, H⟩ := ob H
      refine awr_n rfl (xdT (enc := eI) hx6 (fun _ => rfl) rfl rfl rfl) ?_
      refine wk ?_
      obtain ⟨r7, hr7, H⟩ := ob H
      refine awr_n rfl (ca rfl rfl rfl (iInRange_c hr7) trivial rfl rfl rfl rfl) ?_
      refine wk ?_
      refine awc_cond rfl (fun h => ?_) (fun h => ?_)
      · have H := bt h H
        refine wk ?_
        obtain ⟨r0, Hd, rfl⟩ := dnE H
        refine iq_r (fun hq => ?_)
        have H := Hd.trans (congrArg some hq)
        refine wk ?_
        cases H
        exact fin_ret (.cons (.tmp rfl) .nil) rfl rfl rfl
      · have H := bf h H
        refine wk ?_
        cases H
        refine iq_n ?_
        exact weak_of ⟨rfl, rfl, rfl, rfl, rfl, rfl, rfl, rfl, trivial⟩ ⟨rfl, ⟨rfl, rfl⟩, trivial⟩
    · have H := bf h H
      refine wk ?_
      obtain ⟨r0, Hd, rfl⟩ := dnE H
      refine iq_e (fun hq => ?_)
      have H := Hd.trans (congrArg some hq)
      refine wk ?_
      obtain ⟨r8, hr8, H⟩ := ob H
      refine awr_n rfl (ca rfl rfl rfl (iisAscending_c hr8) trivial rfl rfl rfl rfl) ?_
      refine wk ?_
      cases H
      exact fin_ret (.cons (.tmp rfl) .nil) rfl rfl rfl
def icopyInts (a0 : List Int) : Option (List Int) :=
  bif mkOk 8 ((a0.length : Nat) : Int) ((a0.length : Nat) : Int) then (some (cpL (List.replicate (((a0.length : Nat) : Int)).toNat 0) a0)) else none
theorem icopyInts_c {a0 : List Int} {r : List Int} (H : icopyInts a0 = some r) : Fn Tryz.prog 52 [aL (a0.map eI)] [.c (.own 3 1 (r.map eI) r.length)] := by
  refine fn_in Tryz.func52 rfl (by kernel_rfl) Tryz.ntmps52 rfl rfl rfl ?_
  refine wk ?_
  obtain ⟨h, H⟩ := rq H
  refine awr_n rfl (mkT (enc := eI) (za := 0) h (by rfl) rfl rfl rfl rfl) ?_
  refine wk ?_
  refine awr_step rfl (cpT (enc := eI) (ys := (List.replicate (((a0.length : Nat) : Int)).toNat 0)) (zs := a0) rfl (fun _ => rfl) (by first | rfl | simp) .d rfl rfl rfl rfl rfl) ?_
  refine awr_weak (weak_flat (enc := eI) (o := 0) rfl (fun _ => rfl)) ?_
  refine wk ?_
  cases H
  exact fin_ret (.cons (.tmp rfl) .nil) rfl rfl (by first | rfl | simp)
def icopyMap_L1 (a0 : TCellMap) : (Int × List TCell) → Option (Step (Int × List TCell) (List TCell))
  | (v1, v2) => bif ltB v1 ((a0.Cells.length : Nat) : Int) then (Option.bind (ix a0.Cells v1) fun x7 => Option.bind (icopyInts x7.Neighbors) fun r8 => Option.bind (ix v2 v1) fun x9 => some (.next (WR (v1 + 1), (v2.set (v1).toNat (⟨x7.Area, r8⟩ : TCell))))) else (some (.done v2))
def icopyMap (a0 : TCellMap) : Option TCellMap :=
  bif mkOk 32 ((a0.Cells.length : Nat) : Int) ((a0.Cells.length : Nat) : Int) then (Option.bind (iter (icopyMap_L1 a0) FU (0, (List.replicate (((a0.Cells.length : Nat) : Int)).toNat (⟨0, []⟩ : TCell)))) fun (v6 : List TCell) => some (⟨v6⟩ : TCellMap)) else none
theorem icopyMap_c {a0 : TCellMap} {r : TCellMap} (H : icopyMap a0 = some r) : Fn Tryz.prog 21 [.agg (eTCellMap a0)] [.agg [.own 102 2 (r.Cells.map eTCell) r.Cells.length]] := by
  refine fn_in Tryz.func21 rfl (by kernel_rfl) Tryz.ntmps21 rfl rfl rfl ?_
  refine wkz ?_
  obtain ⟨h, H⟩ := rq H
  refine awr_n rfl (mkT (enc := eTCell) (za := (⟨0, []⟩ : TCell)) h (by rfl) rfl rfl rfl rfl) ?_
  refine wkz ?_
  obtain ⟨v6, Hj, H⟩ := ob H
  refine awc_jblk ⟨[(2, .v (.c (.p 1 0))), (3, .v (.c (.w 2 v6.length)))], [(1, .var 26 [.nil]), (2, .row 102 2 (v6.map eTCell) true true)], 3⟩ ?_ ?_
  · refine wkz ?_
    refine awc_iter (fun (q : Int × List TCell) => ⟨[(2, .v (.c (.p 1 0))), (3, .v (.c (.w 2 q.2.length))), (11, .v (.c (.d false (.l (a0.Cells.map eTCell))))), (12, tI ((a0.Cells.length : Nat) : Int)), (13, tI q.1)], [(1, .var 26 [.nil]), (2, .row 102 2 (q.2.map eTCell) true true)], 3⟩) Hj (weak_of ⟨rfl, rfl, wn rfl (by first | rfl | simp), rfl, rfl, rfl, rfl, rfl, rfl, rfl, trivial⟩ ⟨rfl, ⟨rfl, rfl⟩, rfl, ⟨rfl, rfl⟩, trivial⟩) ?_
    rintro ⟨v1, v2⟩ o H
    try dsimp only
    refine wkz ?_
    refine awc_cond rfl (fun h => ?_) (fun h => ?_)
    · have H := bt h H
      refine wkz ?_
      obtain ⟨x7, hx7, H⟩ := ob H
      refine awr_n rfl (xdT (enc := eTCell) hx7 (fun _ => rfl) rfl rfl rfl) ?_
      refine wkz ?_
      refine awc_dz [0, 1, 2, 3, 4, 5, 6, 7, 8, 9] Try.follows (by kernel_rfl) (by kernel_rfl) rfl ?_
      refine wkz ?_
      obtain ⟨r8, hr8, H⟩ := ob H
      refine dz_n rfl (ca rfl rfl rfl (icopyInts_c hr8) trivial rfl rfl rfl rfl) ?_
      refine wkz ?_
      obtain ⟨x9, hx9, H⟩ := ob H
      refine dz_n rfl (xwT hx9 (by first | rfl | simp) rfl rfl rfl) ?_
      refine wkz ?_
      refine dz_bar (by kernel_rfl) rfl (by kernel_rfl) (weak_trans (weak_frz (o := 4) rfl rfl) (weak_cast (k := 25) rfl rfl ⟨by first | rfl | simp, trivial⟩)) (bo_n rfl (soT (enc := eTCell) (a' := (⟨x7.Area, r8⟩ : TCell)) hx9 rfl rfl rfl rfl rfl rfl rfl)) weak_id rfl ?_
      refine wkz ?_
      cases H
      refine iq_n ?_
      exact weak_of ⟨rfl, rfl, wn rfl (by first | rfl | simp), rfl, rfl, rfl, rfl, rfl, rfl, rfl, trivial⟩ ⟨rfl, ⟨rfl, rfl⟩, rfl, ⟨rfl, rfl⟩, trivial⟩
    · have H := bf h H
      refine wkz ?_
      cases H
      refine iq_e (fun hq => ?_)
      cases hq
      refine wkz ?_
      exact weak_of ⟨rfl, rfl, wn rfl (by first | rfl | simp), rfl, trivial⟩ ⟨rfl, ⟨rfl, rfl⟩, rfl, ⟨rfl, rfl⟩, trivial⟩
  refine wkz ?_
  cases H
  exact fin_ret (.cons (.cell rfl rfl rfl) .nil) rfl rfl (by first | rfl | simp)
def iIsValidSubscriberID (a0 : TSubscriberID) : Option Bool :=
  Option.bind (iInRange a0.Network 0 3) fun r1 => Option.bind (bif r1 then (Option.bind (iInRange a0.Number 0 99) fun r3 => some r3) else (some false)) fun (v2 : Bool) => some v2
theorem iIsValidSubscriberID_c {a0 : TSubscriberID} {r : Bool} (H : iIsValidSubscriberID a0 = some r) : Fn Tryz.prog 53 [.agg (eTSubscriberID a0)] [.c (.d (.b r))] := by
  refine fn_in Tryz.func53 rfl (by kernel_rfl) Tryz.ntmps53 rfl rfl rfl ?_
  refine wk ?_
  obtain ⟨r1, hr1, H⟩ := ob H
  refine awr_n rfl (ca rfl rfl rfl (iInRange_c hr1) trivial rfl rfl rfl rfl) ?_
  refine wk ?_
  obtain ⟨v2, Hj, H⟩ := ob H
  refine awr_join ⟨[(2, tB v2)], [], 0⟩ ?_ ?_
  · have H := Hj
    refine wk ?_
    refine g2 rfl rfl rfl (fun h => ?_) (fun h => ?_)
    · have H := bt h H
      refine wk ?_
      obtain ⟨r3, hr3, H⟩ := ob H
      refine awr_ng rfl rfl rfl rfl (ca rfl rfl rfl (iInRange_c hr3) trivial rfl rfl rfl rfl) ?_
      refine wk ?_
      cases H
      exact weak_of ⟨rfl, rfl, trivial⟩ trivial
    · have H := bf h H
      refine wk ?_
      cases H
      exact weak_of ⟨rfl, rfl, trivial⟩ trivial
  refine wk ?_
  cases H
  exact fin_ret (.cons (.tmp rfl) .nil) rfl rfl rfl
def iIsValidKey (a0 : Int) : Option Bool :=
  Option.bind (iInRange a0 1 2147483646) fun r1 => some r1
theorem iIsValidKey_c {a0 : Int} {r : Bool} (H : iIsValidKey a0 = some r) : Fn Tryz.prog 54 [aI a0] [.c (.d (.b r))] := by
  refine fn_in Tryz.func54 rfl (by kernel_rfl) Tryz.ntmps54 rfl rfl rfl ?_
  refine wk ?_
  obtain ⟨r1, hr1, H⟩ := ob H
  refine awr_n rfl (ca rfl rfl rfl (iInRange_c hr1) trivial rfl rfl rfl rfl) ?_
  refine wk ?_
  cases H
  exact fin_ret (.cons (.tmp rfl) .nil) rfl rfl rfl
def iIsValidSubscriberRecord (a0 : TSubscriberRecord) : Option Bool :=
  Option.bind (iIsValidSubscriberID a0.ID) fun r1 => Option.bind (bif r1 then (Option.bind (iIsValidKey a0.Key) fun r3 => bif r3 then (Option.bind (iInRange a0.Seq 0 999999) fun r4 => some r4) else (some false)) else (some false)) fun (v2 : Bool) => some v2
theorem iIsValidSubscriberRecord_c {a0 : TSubscriberRecord} {r : Bool} (H : iIsValidSubscriberRecord a0 = some r) : Fn Tryz.prog 22 [.agg (eTSubscriberRecord a0)] [.c (.d (.b r))] := by
  refine fn_in Tryz.func22 rfl (by kernel_rfl) Tryz.ntmps22 rfl rfl rfl ?_
  refine wk ?_
  obtain ⟨r1, hr1, H⟩ := ob H
  refine awr_n rfl (ca rfl rfl rfl (iIsValidSubscriberID_c hr1) trivial rfl rfl rfl rfl) ?_
  refine wk ?_
  obtain ⟨v2, Hj, H⟩ := ob H
  refine awr_join ⟨[(2, tB v2)], [], 0⟩ ?_ ?_
  · have H := Hj
    refine wk ?_
    refine g2 rfl rfl rfl (fun h => ?_) (fun h => ?_)
    · have H := bt h H
      refine wk ?_
      obtain ⟨r3, hr3, H⟩ := ob H
      refine awr_ng rfl rfl rfl rfl (ca rfl rfl rfl (iIsValidKey_c hr3) trivial rfl rfl rfl rfl) ?_
      refine wk ?_
      refine g2 rfl rfl rfl (fun h => ?_) (fun h => ?_)
      · have H := bt h H
        refine wk ?_
        obtain ⟨r4, hr4, H⟩ := ob H
        refine awr_ng rfl rfl rfl rfl (ca rfl rfl rfl (iInRange_c hr4) trivial rfl rfl rfl rfl) ?_
        refine wk ?_
        cases H
        exact weak_of ⟨rfl, rfl, trivial⟩ trivial
      · have H := bf h H
        refine wk ?_
        cases H
        exact weak_of ⟨rfl, rfl, trivial⟩ trivial
    · have H := bf h H
      refine wk ?_
      cases H
      exact weak_of ⟨rfl, rfl, trivial⟩ trivial
  refine wk ?_
  cases H
  exact fin_ret (.cons (.tmp rfl) .nil) rfl rfl rfl
def iNewDevice (a0 : TUSIM) (a1 : Int) : Option TDevice :=
  some (⟨a0, 0, a1, 0, 0, 0, false, 0, (⟨1, [], []⟩ : TReceiveWindow)⟩ : TDevice)
theorem iNewDevice_c {a0 : TUSIM} {a1 : Int} {r : TDevice} (H : iNewDevice a0 a1 = some r) : Fn Tryz.prog 23 [.agg (eTUSIM a0), aI a1] [.agg [.d (.i .i64 r.Card.ID.Network), .d (.i .i64 r.Card.ID.Number), .d (.i .i64 r.Card.Key), .d (.i .i64 r.Card.LastSeq), .d (.i .i64 r.State), .d (.i .i64 r.Cell), .d (.i .i64 r.Generation), .d (.i .i64 r.RootKey), .d (.i .i64 r.Epoch), .d (.b r.PathConfirmed), .d (.i .i64 r.Wait), .d (.i .i64 r.Receiver.Next), .nil, .nil]] := by
  refine fn_in Tryz.func23 rfl (by kernel_rfl) Tryz.ntmps23 rfl rfl rfl ?_
  refine wk ?_
  cases H
  exact fin_ret (.cons (.cell rfl rfl rfl) .nil) rfl rfl rfl
def icopySubscription (a0 : TSubscription) : Option TSubscription :=
  Option.bind (icopyInts a0.RoamingNetworks) fun r1 => some (⟨a0.RateLimit, a0.BestClass, a0.GrantSize, r1⟩ : TSubscription)
theorem icopySubscription_c {a0 : TSubscription} {r : TSubscription} (H : icopySubscription a0 = some r) : Fn Tryz.prog 55 [.agg (eTSubscription a0)] [.agg [.d (.i .i64 r.RateLimit), .d (.i .i64 r.BestClass), .d (.i .i64 r.GrantSize), .own 3 1 (r.RoamingNetworks.map eI) r.RoamingNetworks.length]] := by
  refine fn_in Tryz.func55 rfl (by kernel_rfl) Tryz.ntmps55 rfl rfl rfl ?_
  refine wk ?_
  obtain ⟨r1, hr1, H⟩ := ob H
  refine awr_n rfl (ca rfl rfl rfl (icopyInts_c hr1) trivial rfl rfl rfl rfl) ?_
  refine wk ?_
  cases H
  exact fin_ret (.cons (.cell rfl rfl rfl) .nil) rfl rfl (by first | rfl | simp)
def iNewSession (a0 : TSubscriberRecord) (a1 : TSubscription) (a2 : Int) : Option TSession :=
  Option.bind (icopySubscription a1) fun r1 => some (⟨a0, r1, 0, (⟨0, 0, 0, 0, 0⟩ : TAuthVector), 0, 0, 0, 0, 0, 0, (⟨0, 0, 0⟩ : TPagingState), [], (⟨1, []⟩ : TSendWindow), 0, (⟨a2, 0, 0⟩ : TQuota)⟩ : TSession)
theorem iNewSession_c {a0 : TSubscriberRecord} {a1 : TSubscription} {a2 : Int} {r : TSession} (H : iNewSession a0 a1 a2 = some r) : Fn Tryz.prog 24 [.agg (eTSubscriberRecord a0), .agg (eTSubscription a1), aI a2] [.agg [.d (.i .i64 r.Record.ID.Network), .d (.i .i64 r.Record.ID.Number), .d (.i .i64 r.Record.Key), .d (.i .i64 r.Record.Seq), .d (.i .i64 r.Plan.RateLimit), .d (.i .i64 r.Plan.BestClass), .d (.i .i64 r.Plan.GrantSize), .own 3 1 (r.Plan.RoamingNetworks.map eI) r.Plan.RoamingNetworks.length, .d (.i .i64 r.State), .d (.i .i64 r.Pending.Rand), .d (.i .i64 r.Pending.Autn), .d (.i .i64 r.Pending.MAC), .d (.i .i64 r.Pending.Res), .d (.i .i64 r.Pending.Key), .d (.i .i64 r.PendingSeq), .d (.i .i64 r.Generation), .d (.i .i64 r.RootKey), .d (.i .i64 r.Epoch), .d (.i .i64 r.Cell), .d (.i .i64 r.Quiet), .d (.i .i64 r.Page.Area), .d (.i .i64 r.Page.Attempt), .d (.i .i64 r.Page.Wait), .nil, .d (.i .i64 r.Window.Next), .nil, .d (.i .i64 r.Retry), .d (.i .i64 r.Usage.SessionID), .d (.i .i64 r.Usage.Granted), .d (.i .i64 r.Usage.Used)]] := by
  refine fn_in Tryz.func24 rfl (by kernel_rfl) Tryz.ntmps24 rfl rfl rfl ?_
  refine wkz ?_
  refine awc_dz [0, 1, 2, 3, 4, 5, 6, 7] Try.follows (by kernel_rfl) (by kernel_rfl) rfl ?_
  refine wkz ?_
  obtain ⟨r1, hr1, H⟩ := ob H
  refine dz_n rfl (ca rfl rfl rfl (icopySubscription_c hr1) trivial rfl rfl rfl rfl) ?_
  refine wkz ?_
  refine dz_w rfl (spx 100042 rfl rfl rfl rfl rfl rfl rfl rfl) ?_
  refine wkz ?_
  cases H
  exact fin_ret (.cons (.cell rfl rfl rfl) .nil) rfl rfl (by first | rfl | simp)
def iNewAccount (a0 : Int) : Option TAccount :=
  Option.bind (iInRange a0 0 100000) fun r1 => Option.bind (bif !r1 then (some 0) else (some a0)) fun (v2 : Int) => some (⟨v2, v2, 0, []⟩ : TAccount)
theorem iNewAccount_c {a0 : Int} {r : TAccount} (H : iNewAccount a0 = some r) : Fn Tryz.prog 25 [aI a0] [.agg [.d (.i .i64 r.Total), .d (.i .i64 r.Available), .d (.i .i64 r.Spent), .nil]] := by
  refine fn_in Tryz.func25 rfl (by kernel_rfl) Tryz.ntmps25 rfl rfl rfl ?_
  refine wk ?_
  obtain ⟨r1, hr1, H⟩ := ob H
  refine awr_n rfl (ca rfl rfl rfl (iInRange_c hr1) trivial rfl rfl rfl rfl) ?_
  refine wk ?_
  obtain ⟨v2, Hj, H⟩ := ob H
  refine awc_join ⟨[(0, tI v2), (2, .v (.c (.p 0 0)))], [(0, .var 68 [.d false (.i .i64 0), .d false (.i .i64 0), .d false (.i .i64 0), .nil])], 1⟩ ?_ ?_
  · have H := Hj
    refine wk ?_
    refine awc_cond rfl (fun h => ?_) (fun h => ?_)
    · have H := bt h H
      refine wk ?_
      cases H
      exact weak_of ⟨rfl, rfl, rfl, rfl, trivial⟩ ⟨rfl, ⟨rfl, rfl⟩, trivial⟩
    · have H := bf h H
      refine wk ?_
      cases H
      exact weak_of ⟨rfl, rfl, rfl, rfl, trivial⟩ ⟨rfl, ⟨rfl, rfl⟩, trivial⟩
  refine wk ?_
  cases H
  exact fin_ret (.cons (.cell rfl rfl rfl) .nil) rfl rfl rfl
def iNewNetwork_L2 (a0 : TCellMap) (a1 : List TSubscriberRecord) (a2 : TSubscription) (a3 : Int) (v5 : Int) (v6 : List TAccount) (v7 : List TSession) (v8 : List TDevice) (x9 : TSubscriberRecord) : Int → Option (Step (Int) (Step (Int × List TAccount × List TSession × List TDevice) (TNetwork)))
  | v11 => bif ltB v11 (((a1.take (v5).toNat).length : Nat) : Int) then (Option.bind (ix (a1.take (v5).toNat) v11) fun x12 => bif (eqB x12.ID.Network x9.ID.Network && (eqB x12.ID.Number x9.ID.Number && true)) then (dn (dn (some (⟨(⟨[]⟩ : TCellMap), [], [], [], [], 0, (⟨0, 0⟩ : TServerPool), 0, 0⟩ : TNetwork)))) else (some (.next (WR (v11 + 1))))) else (dn (bif !eqB ((a0.Cells.length : Nat) : Int) 0 then (Option.bind (iNewDevice (⟨x9.ID, x9.Key, x9.Seq⟩ : TUSIM) (Int.tmod v5 ((a0.Cells.length : Nat) : Int))) fun r13 => bif apOk 144 (v8 ++ [(⟨r13.Card, r13.State, r13.Cell, r13.Generation, r13.RootKey, r13.Epoch, r13.PathConfirmed, r13.Wait, (⟨r13.Receiver.Next, [], []⟩ : TReceiveWindow)⟩ : TDevice)]).length then (Option.bind (iNewSession x9 a2 v5) fun r14 => bif apOk 288 (v7 ++ [(⟨r14.Record, r14.Plan, r14.State, r14.Pending, r14.PendingSeq, r14.Generation, r14.RootKey, r14.Epoch, r14.Cell, r14.Quiet, r14.Page, [], (⟨r14.Window.Next, []⟩ : TSendWindow), r14.Retry, r14.Usage⟩ : TSession)]).length then (Option.bind (iNewAccount a3) fun r15 => bif apOk 48 (v6 ++ [(⟨r15.Total, r15.Available, r15.Spent, []⟩ : TAccount)]).length then (some (.next (WR (v5 + 1), (v6 ++ [(⟨r15.Total, r15.Available, r15.Spent, []⟩ : TAccount)]), (v7 ++ [(⟨r14.Record, r14.Plan, r14.State, r14.Pending, r14.PendingSeq, r14.Generation, r14.RootKey, r14.Epoch, r14.Cell, r14.Quiet, r14.Page, [], (⟨r14.Window.Next, []⟩ : TSendWindow), r14.Retry, r14.Usage⟩ : TSession)]), (v8 ++ [(⟨r13.Card, r13.State, r13.Cell, r13.Generation, r13.RootKey, r13.Epoch, r13.PathConfirmed, r13.Wait, (⟨r13.Receiver.Next, [], []⟩ : TReceiveWindow)⟩ : TDevice)])))) else none) else none) else none) else none))
def iNewNetwork_L1 (a0 : TCellMap) (a1 : List TSubscriberRecord) (a2 : TSubscription) (a3 : Int) (r4 : TCellMap) : (Int × List TAccount × List TSession × List TDevice) → Option (Step (Int × List TAccount × List TSession × List TDevice) (TNetwork))
  | (v5, v6, v7, v8) => bif ltB v5 ((a1.length : Nat) : Int) then (Option.bind (ix a1 v5) fun x9 => Option.bind (iIsValidSubscriberRecord x9) fun r10 => bif !r10 then (dn (some (⟨(⟨[]⟩ : TCellMap), [], [], [], [], 0, (⟨0, 0⟩ : TServerPool), 0, 0⟩ : TNetwork))) else (bif slOk a1 0 v5 then (iter (iNewNetwork_L2 a0 a1 a2 a3 v5 v6 v7 v8 x9) FU 0) else none)) else (dn (some (⟨r4, v8, v7, v6, [], 0, (⟨2, 3⟩ : TServerPool), 0, 0⟩ : TNetwork)))
def iNewNetwork (a0 : TCellMap) (a1 : List TSubscriberRecord) (a2 : TSubscription) (a3 : Int) : Option TNetwork :=
  Option.bind (iIsValidMap a0) fun r1 => Option.bind (bif !r1 then (some true) else (Option.bind (iIsValidSubscription a2) fun r3 => bif !r3 then (some true) else (some (ltB 4 ((a1.length : Nat) : Int))))) fun (v2 : Bool) => bif v2 then (some (⟨(⟨[]⟩ : TCellMap), [], [], [], [], 0, (⟨0, 0⟩ : TServerPool), 0, 0⟩ : TNetwork)) else (Option.bind (icopyMap a0) fun r4 => iter (iNewNetwork_L1 a0 a1 a2 a3 r4) FU (0, ([] : List TAccount), ([] : List TSession), ([] : List TDevice)))
theorem iNewNetwork_c {a0 : TCellMap} {a1 : List TSubscriberRecord} {a2 : TSubscription} {a3 : Int} {r : TNetwork} (H : iNewNetwork a0 a1 a2 a3 = some r) : FnV Tryz.prog 6 [] [.v (.agg [.d false (.l (a0.Cells.map eTCell))]), .v (.c (.d false (.l (a1.map eTSubscriberRecord)))), .v (.agg [.d false (.i .i64 a2.RateLimit), .d false (.i .i64 a2.BestClass), .d false (.i .i64 a2.GrantSize), .d false (.l (a2.RoamingNetworks.map eI))]), tI a3] [] (.v (.agg [.d true (.l (r.Map.Cells.map eTCell)), .wn 210 r.Devices.length, .wn 211 r.Sessions.length, .wn 212 r.Accounts.length, .nil, .d false (.i .i64 r.DownCells), .d false (.i .i64 r.Core.Size), .d false (.i .i64 r.Core.UpMask), .d false (.i .i64 r.Now), .d false (.i .i64 r.Lost)])) [(210, .rown 52 14 (r.Devices.map eTDevice) true), (211, .rown 65 30 (r.Sessions.map eTSession) true), (212, .rown 68 4 (r.Accounts.map eTAccount) true)] := by
  refine fn_inV Tryz.func6 rfl (by kernel_rfl) Tryz.ntmps6 rfl rfl rfl ?_
  refine wkz ?_
  obtain ⟨r1, hr1, H⟩ := ob H
  refine awr_n rfl (ca rfl rfl rfl (iIsValidMap_c hr1) trivial rfl rfl rfl rfl) ?_
  refine wkz ?_
  obtain ⟨v2, Hj, H⟩ := ob H
  refine awr_join ⟨[(1, .v (.c (.d false (.l (a1.map eTSubscriberRecord))))), (3, tI a3), (4, .v (.c (.p 210 0))), (6, .v (.c (.p 211 0))), (8, .v (.c (.p 212 0))), (27, tB v2)], [(210, .var 26 [.d false (.l (a0.Cells.map eTCell))]), (211, .var 30 [.d false (.i .i64 a2.RateLimit), .d false (.i .i64 a2.BestClass), .d false (.i .i64 a2.GrantSize), .d false (.l (a2.RoamingNetworks.map eI))]), (212, .var 40 [.nil, .nil, .nil, .nil, .nil, .d false (.i .i64 0), .d false (.i .i64 0), .d false (.i .i64 0), .d false (.i .i64 0), .d false (.i .i64 0)])], 213⟩ ?_ ?_
  · have H := Hj
    refine wkz ?_
    refine g2 rfl rfl rfl (fun h => ?_) (fun h => ?_)
    · have H := bt h H
      refine wkz ?_
      cases H
      exact weak_of ⟨rfl, rfl, rfl, rfl, rfl, rfl, rfl, rfl, rfl, rfl, rfl, rfl, trivial⟩ ⟨rfl, ⟨rfl, rfl⟩, rfl, ⟨rfl, rfl⟩, rfl, ⟨rfl, rfl⟩, trivial⟩
    · have H := bf h H
      refine wkz ?_
      obtain ⟨r3, hr3, H⟩ := ob H
      refine awr_ng rfl rfl rfl rfl (ca rfl rfl rfl (iIsValidSubscription_c hr3) trivial rfl rfl rfl rfl) ?_
      refine wkz ?_
      refine g2 rfl rfl rfl (fun h => ?_) (fun h => ?_)
      · have H := bt h H
        refine wkz ?_
        cases H
        exact weak_of ⟨rfl, rfl, rfl, rfl, rfl, rfl, rfl, rfl, rfl, rfl, rfl, rfl, trivial⟩ ⟨rfl, ⟨rfl, rfl⟩, rfl, ⟨rfl, rfl⟩, rfl, ⟨rfl, rfl⟩, trivial⟩
      · have H := bf h H
        refine wkz ?_
        cases H
        exact weak_of ⟨rfl, rfl, rfl, rfl, rfl, rfl, rfl, rfl, rfl, rfl, rfl, rfl, trivial⟩ ⟨rfl, ⟨rfl, rfl⟩, rfl, ⟨rfl, rfl⟩, rfl, ⟨rfl, rfl⟩, trivial⟩
  refine wkz ?_
  refine awc_cond rfl (fun h => ?_) (fun h => ?_)
  · have H := bt h H
    refine wkz ?_
    cases H
    refine clo_v ((weak_nilV (o := 212) (j := 0) rfl rfl)) ?_
    refine clo_v ((weak_nnV (o := 212) (j := 1) 52 14 true rfl rfl rfl rfl rfl)) ?_
    refine clo_v ((weak_nnV (o := 212) (j := 2) 65 30 true rfl rfl rfl rfl rfl)) ?_
    refine clo_v ((weak_nnV (o := 212) (j := 3) 68 4 true rfl rfl rfl rfl rfl)) ?_
    refine clo_v (weak_swp (p := 213) (q := 210) rfl rfl rfl rfl) ?_
    refine clo_v (weak_swp (p := 214) (q := 211) rfl rfl rfl rfl) ?_
    refine clo_v (weak_swp (p := 215) (q := 212) rfl rfl rfl rfl) ?_
    refine clo_v ((weak_wnB (o := 210) (n := ([] : List TDevice).length) rfl rfl (by repeat (first | exact trivial | refine ⟨by first | rfl | simp, ?_⟩)) (by repeat (first | exact trivial | refine ⟨by first | rfl | simp, ?_⟩)))) ?_
    refine clo_v ((weak_wnB (o := 211) (n := ([] : List TSession).length) rfl rfl (by repeat (first | exact trivial | refine ⟨by first | rfl | simp, ?_⟩)) (by repeat (first | exact trivial | refine ⟨by first | rfl | simp, ?_⟩)))) ?_
    refine clo_v ((weak_wnB (o := 212) (n := ([] : List TAccount).length) rfl rfl (by repeat (first | exact trivial | refine ⟨by first | rfl | simp, ?_⟩)) (by repeat (first | exact trivial | refine ⟨by first | rfl | simp, ?_⟩)))) ?_
    exact fin_retV (.cons (.cell rfl rfl rfl) .nil) rfl (by first | rfl | simp) trivial ⟨rfl, rfl, rfl, trivial⟩
  · have H := bf h H
    refine wkz ?_
    obtain ⟨r4, hr4, H⟩ := ob H
    refine awr_n rfl (ca rfl rfl rfl (icopyMap_c hr4) trivial rfl rfl rfl rfl) ?_
    refine wkz ?_
    refine awc_iter (fun (q : Int × List TAccount × List TSession × List TDevice) => ⟨[(1, .v (.c (.d false (.l (a1.map eTSubscriberRecord))))), (3, tI a3), (4, .v (.c (.p 210 0))), (6, .v (.c (.p 211 0))), (8, .v (.c (.p 212 0))), (9, .v (.c (.p 214 0))), (33, .v (.c (.d false (.l (a1.map eTSubscriberRecord))))), (34, tI ((a1.length : Nat) : Int)), (35, tI q.1)], [(210, .var 26 [.d false (.l (a0.Cells.map eTCell))]), (211, .var 30 [.d false (.i .i64 a2.RateLimit), .d false (.i .i64 a2.BestClass), .d false (.i .i64 a2.GrantSize), .d false (.l (a2.RoamingNetworks.map eI))]), (212, .var 40 [.nil, .nil, .nil, .nil, .nil, .d false (.i .i64 0), .d false (.i .i64 0), .d false (.i .i64 0), .d false (.i .i64 0), .d false (.i .i64 0)]), (213, .row 102 2 (r4.Cells.map eTCell) true true), (214, .var 40 [.w 213 r4.Cells.length, .wn 215 q.2.2.2.length, .wn 216 q.2.2.1.length, .wn 217 q.2.1.length, .nil, .d false (.i .i64 0), .d false (.i .i64 2), .d false (.i .i64 3), .d false (.i .i64 0), .d false (.i .i64 0)]), (215, .rown 52 14 (q.2.2.2.map eTDevice) true), (216, .rown 65 30 (q.2.2.1.map eTSession) true), (217, .rown 68 4 (q.2.1.map eTAccount) true)], 218⟩) H (by refine weak_trans (weak_nnV (o := 214) (j := 1) 52 14 true rfl rfl rfl rfl rfl) ?_; refine weak_trans (weak_nnV (o := 214) (j := 2) 65 30 true rfl rfl rfl rfl rfl) ?_; refine weak_trans (weak_nnV (o := 214) (j := 3) 68 4 true rfl rfl rfl rfl rfl) ?_; refine weak_trans (weak_wnB (o := 215) (n := ([] : List TDevice).length) rfl rfl (by repeat (first | exact trivial | refine ⟨by first | rfl | simp, ?_⟩)) (by repeat (first | exact trivial | refine ⟨by first | rfl | simp, ?_⟩))) ?_; refine weak_trans (weak_wnB (o := 216) (n := ([] : List TSession).length) rfl rfl (by repeat (first | exact trivial | refine ⟨by first | rfl | simp, ?_⟩)) (by repeat (first | exact trivial | refine ⟨by first | rfl | simp, ?_⟩))) ?_; refine weak_trans (weak_wnB (o := 217) (n := ([] : List TAccount).length) rfl rfl (by repeat (first | exact trivial | refine ⟨by first | rfl | simp, ?_⟩)) (by repeat (first | exact trivial | refine ⟨by first | rfl | simp, ?_⟩))) ?_; exact weak_of ⟨rfl, rfl, rfl, rfl, rfl, rfl, rfl, rfl, rfl, rfl, rfl, rfl, rfl, rfl, rfl, rfl, rfl, rfl, trivial⟩ ⟨rfl, ⟨rfl, rfl⟩, rfl, ⟨rfl, rfl⟩, rfl, ⟨rfl, rfl⟩, rfl, ⟨rfl, rfl⟩, rfl, ⟨rfl, rfl⟩, rfl, ⟨rfl, rfl⟩, rfl, ⟨rfl, rfl⟩, rfl, ⟨rfl, rfl⟩, trivial⟩) ?_
    rintro ⟨v5, v6, v7, v8⟩ o H
    try dsimp only
    refine wkz ?_
    refine awc_cond rfl (fun h => ?_) (fun h => ?_)
    · have H := bt h H
      refine wkz ?_
      obtain ⟨x9, hx9, H⟩ := ob H
      refine awr_n rfl (xdT (enc := eTSubscriberRecord) hx9 (fun _ => rfl) rfl rfl rfl) ?_
      refine wkz ?_
      obtain ⟨r10, hr10, H⟩ := ob H
      refine awr_n rfl (ca rfl rfl rfl (iIsValidSubscriberRecord_c hr10) trivial rfl rfl rfl rfl) ?_
      refine wkz ?_
      refine awc_cond rfl (fun h => ?_) (fun h => ?_)
      · have H := bt h H
        refine wkz ?_
        obtain ⟨r0, Hd, rfl⟩ := dnE H
        refine iq_r (fun hq => ?_)
        have H := Hd.trans (congrArg some hq)
        refine wkz ?_
        cases H
        refine clo_v ((weak_nilV (o := 212) (j := 0) rfl rfl)) ?_
        refine clo_v ((weak_nnV (o := 212) (j := 1) 52 14 true rfl rfl rfl rfl rfl)) ?_
        refine clo_v ((weak_nnV (o := 212) (j := 2) 65 30 true rfl rfl rfl rfl rfl)) ?_
        refine clo_v ((weak_nnV (o := 212) (j := 3) 68 4 true rfl rfl rfl rfl rfl)) ?_
        refine clo_v (weak_swp (p := 219) (q := 210) rfl rfl rfl rfl) ?_
        refine clo_v (weak_swp (p := 220) (q := 211) rfl rfl rfl rfl) ?_
        refine clo_v (weak_swp (p := 221) (q := 212) rfl rfl rfl rfl) ?_
        refine clo_v ((weak_wnB (o := 210) (n := ([] : List TDevice).length) rfl rfl (by repeat (first | exact trivial | refine ⟨by first | rfl | simp, ?_⟩)) (by repeat (first | exact trivial | refine ⟨by first | rfl | simp, ?_⟩)))) ?_
        refine clo_v ((weak_wnB (o := 211) (n := ([] : List TSession).length) rfl rfl (by repeat (first | exact trivial | refine ⟨by first | rfl | simp, ?_⟩)) (by repeat (first | exact trivial | refine ⟨by first | rfl | simp, ?_⟩)))) ?_
        refine clo_v ((weak_wnB (o := 212) (n := ([] : List TAccount).length) rfl rfl (by repeat (first | exact trivial | refine ⟨by first | rfl | simp, ?_⟩)) (by repeat (first | exact trivial | refine ⟨by first | rfl | simp, ?_⟩)))) ?_
        exact fin_retV (.cons (.cell rfl rfl rfl) .nil) rfl (by first | rfl | simp) trivial ⟨rfl, rfl, rfl, trivial⟩
      · have H := bf h H
        refine wkz ?_
        obtain ⟨h, H⟩ := rq H
        refine awr_n rfl (cdhT (enc := eTSubscriberRecord) h (fun _ => rfl) rfl rfl rfl) ?_
        refine wkz ?_
        refine awc_iter (fun (q : Int) => ⟨[(1, .v (.c (.d false (.l (a1.map eTSubscriberRecord))))), (3, tI a3), (4, .v (.c (.p 210 0))), (6, .v (.c (.p 211 0))), (8, .v (.c (.p 212 0))), (9, .v (.c (.p 214 0))), (10, tI v5), (11, .v (.c (.p 218 0))), (33, .v (.c (.d false (.l (a1.map eTSubscriberRecord))))), (34, tI ((a1.length : Nat) : Int)), (35, tI v5), (46, .v (.c (.d false (.l ((a1.take (v5).toNat).map eTSubscriberRecord))))), (47, tI (((a1.take (v5).toNat).length : Nat) : Int)), (48, tI q)], [(210, .var 26 [.d false (.l (a0.Cells.map eTCell))]), (211, .var 30 [.d false (.i .i64 a2.RateLimit), .d false (.i .i64 a2.BestClass), .d false (.i .i64 a2.GrantSize), .d false (.l (a2.RoamingNetworks.map eI))]), (212, .var 40 [.nil, .nil, .nil, .nil, .nil, .d false (.i .i64 0), .d false (.i .i64 0), .d false (.i .i64 0), .d false (.i .i64 0), .d false (.i .i64 0)]), (213, .row 102 2 (r4.Cells.map eTCell) true true), (214, .var 40 [.w 213 r4.Cells.length, .wn 215 v8.length, .wn 216 v7.length, .wn 217 v6.length, .nil, .d false (.i .i64 0), .d false (.i .i64 2), .d false (.i .i64 3), .d false (.i .i64 0), .d false (.i .i64 0)]), (215, .rown 52 14 (v8.map eTDevice) true), (216, .rown 65 30 (v7.map eTSession) true), (217, .rown 68 4 (v6.map eTAccount) true), (218, .var 54 [.d false (.i .i64 x9.ID.Network), .d false (.i .i64 x9.ID.Number), .d false (.i .i64 x9.Key), .d false (.i .i64 x9.Seq)])], 219⟩) H (weak_of ⟨rfl, rfl, rfl, rfl, rfl, rfl, rfl, rfl, rfl, rfl, rfl, rfl, rfl, rfl, rfl, rfl, rfl, rfl, rfl, rfl, rfl, rfl, rfl, rfl, rfl, rfl, rfl, rfl, trivial⟩ ⟨rfl, ⟨rfl, rfl⟩, rfl, ⟨rfl, rfl⟩, rfl, ⟨rfl, rfl⟩, rfl, ⟨rfl, rfl⟩, rfl, ⟨rfl, rfl⟩, rfl, ⟨rfl, rfl⟩, rfl, ⟨rfl, rfl⟩, rfl, ⟨rfl, rfl⟩, rfl, ⟨rfl, rfl⟩, trivial⟩) ?_
        rintro v11 o H
        try dsimp only
        refine wkz ?_
        refine awc_cond rfl (fun h => ?_) (fun h => ?_)
        · have H := bt h H
          refine wkz ?_
          obtain ⟨x12, hx12, H⟩ := ob H
          refine awr_n rfl (xdT (enc := eTSubscriberRecord) hx12 (fun _ => rfl) rfl rfl rfl) ?_
          refine wkz ?_
          refine awc_cond rfl (fun h => ?_) (fun h => ?_)
          · have H := bt h H
            refine wkz ?_
            obtain ⟨r0, Hd, rfl⟩ := dnE H
            refine iq_r (fun hq => ?_)
            have H := Hd.trans (congrArg some hq)
            refine wkz ?_
            obtain ⟨r0, Hd, rfl⟩ := dnE H
            refine iq_r (fun hq => ?_)
            have H := Hd.trans (congrArg some hq)
            refine wkz ?_
            cases H
            refine clo_v ((weak_nilV (o := 212) (j := 0) rfl rfl)) ?_
            refine clo_v ((weak_nnV (o := 212) (j := 1) 52 14 true rfl rfl rfl rfl rfl)) ?_
            refine clo_v ((weak_nnV (o := 212) (j := 2) 65 30 true rfl rfl rfl rfl rfl)) ?_
            refine clo_v ((weak_nnV (o := 212) (j := 3) 68 4 true rfl rfl rfl rfl rfl)) ?_
            refine clo_v (weak_swp (p := 220) (q := 210) rfl rfl rfl rfl) ?_
            refine clo_v (weak_swp (p := 221) (q := 211) rfl rfl rfl rfl) ?_
            refine clo_v (weak_swp (p := 222) (q := 212) rfl rfl rfl rfl) ?_
            refine clo_v ((weak_wnB (o := 210) (n := ([] : List TDevice).length) rfl rfl (by repeat (first | exact trivial | refine ⟨by first | rfl | simp, ?_⟩)) (by repeat (first | exact trivial | refine ⟨by first | rfl | simp, ?_⟩)))) ?_
            refine clo_v ((weak_wnB (o := 211) (n := ([] : List TSession).length) rfl rfl (by repeat (first | exact trivial | refine ⟨by first | rfl | simp, ?_⟩)) (by repeat (first | exact trivial | refine ⟨by first | rfl | simp, ?_⟩)))) ?_
            refine clo_v ((weak_wnB (o := 212) (n := ([] : List TAccount).length) rfl rfl (by repeat (first | exact trivial | refine ⟨by first | rfl | simp, ?_⟩)) (by repeat (first | exact trivial | refine ⟨by first | rfl | simp, ?_⟩)))) ?_
            exact fin_retV (.cons (.cell rfl rfl rfl) .nil) rfl (by first | rfl | simp) trivial ⟨rfl, rfl, rfl, trivial⟩
          · have H := bf h H
            refine wkz ?_
            cases H
            refine iq_n ?_
            exact weak_of ⟨rfl, rfl, rfl, rfl, rfl, rfl, rfl, rfl, rfl, rfl, rfl, rfl, rfl, rfl, rfl, rfl, rfl, rfl, rfl, rfl, rfl, rfl, rfl, rfl, rfl, rfl, rfl, rfl, trivial⟩ ⟨rfl, ⟨rfl, rfl⟩, rfl, ⟨rfl, rfl⟩, rfl, ⟨rfl, rfl⟩, rfl, ⟨rfl, rfl⟩, rfl, ⟨rfl, rfl⟩, rfl, ⟨rfl, rfl⟩, rfl, ⟨rfl, rfl⟩, rfl, ⟨rfl, rfl⟩, rfl, ⟨rfl, rfl⟩, trivial⟩
        · have H := bf h H
          refine wkz ?_
          obtain ⟨r0, Hd, rfl⟩ := dnE H
          refine iq_e (fun hq => ?_)
          have H := Hd.trans (congrArg some hq)
          refine wkz ?_
          refine awc_dz [0, 1, 2, 3, 4, 5, 6, 7, 8, 9, 10, 11, 12] Try.follows (by kernel_rfl) (by kernel_rfl) rfl ?_
          refine wkz ?_
          obtain ⟨h, H⟩ := rq H
          refine dz_n rfl (ir rfl rfl rfl (ne0 h)) ?_
          refine wkz ?_
          obtain ⟨r13, hr13, H⟩ := ob H
          refine dz_n rfl (ca rfl rfl rfl (iNewDevice_c hr13) trivial rfl rfl rfl rfl) ?_
          refine wkz ?_
          obtain ⟨h, H⟩ := rq H
          refine dz_bar (by kernel_rfl) rfl (by kernel_rfl) weak_id (bo_n rfl (apTn (enc := eTDevice) (ys := v8) (zs := [(⟨r13.Card, r13.State, r13.Cell, r13.Generation, r13.RootKey, r13.Epoch, r13.PathConfirmed, r13.Wait, (⟨r13.Receiver.Next, [], []⟩ : TReceiveWindow)⟩ : TDevice)]) h (by first | exact List.cons_ne_nil _ _ | simp) rfl (fun _ => rfl) (by first | rfl | simp) (.w rfl (by first | rfl | exact lm _ | simp)) rfl rfl rfl rfl rfl rfl rfl rfl rfl rfl)) weak_id rfl ?_
          refine wkz ?_
          refine dz_w rfl (spx 100078 rfl rfl rfl rfl rfl rfl rfl rfl) ?_
          refine wkz ?_
          refine awc_dz [0, 1, 2, 3, 4, 5, 6, 7, 8, 9] Try.follows (by kernel_rfl) (by kernel_rfl) rfl ?_
          refine wkz ?_
          obtain ⟨r14, hr14, H⟩ := ob H
          refine dz_n rfl (ca rfl rfl rfl ((iNewSession_c hr14).frzs (by repeat (first | exact trivial | refine ⟨?_, ?_⟩ | exact lm _ | rfl))) trivial rfl rfl rfl rfl) ?_
          refine wkz ?_
          obtain ⟨h, H⟩ := rq H
          refine dz_bar (by kernel_rfl) rfl (by kernel_rfl) weak_id (bo_n rfl (apTn (enc := eTSession) (ys := v7) (zs := [(⟨r14.Record, r14.Plan, r14.State, r14.Pending, r14.PendingSeq, r14.Generation, r14.RootKey, r14.Epoch, r14.Cell, r14.Quiet, r14.Page, [], (⟨r14.Window.Next, []⟩ : TSendWindow), r14.Retry, r14.Usage⟩ : TSession)]) h (by first | exact List.cons_ne_nil _ _ | simp) rfl (fun _ => rfl) (by first | rfl | simp) (.w rfl (by first | rfl | exact lm _ | simp)) rfl rfl rfl rfl rfl rfl rfl rfl rfl rfl)) weak_id rfl ?_
          refine wkz ?_
          refine dz_w rfl (spx 100077 rfl rfl rfl rfl rfl rfl rfl rfl) ?_
          refine wkz ?_
          refine awc_dz [0, 1, 2, 3, 4, 5, 6, 7] Try.follows (by kernel_rfl) (by kernel_rfl) rfl ?_
          refine wkz ?_
          obtain ⟨r15, hr15, H⟩ := ob H
          refine dz_n rfl (ca rfl rfl rfl (iNewAccount_c hr15) trivial rfl rfl rfl rfl) ?_
          refine wkz ?_
          obtain ⟨h, H⟩ := rq H
          refine dz_bar (by kernel_rfl) rfl (by kernel_rfl) weak_id (bo_n rfl (apTn (enc := eTAccount) (ys := v6) (zs := [(⟨r15.Total, r15.Available, r15.Spent, []⟩ : TAccount)]) h (by first | exact List.cons_ne_nil _ _ | simp) rfl (fun _ => rfl) (by first | rfl | simp) (.w rfl (by first | rfl | exact lm _ | simp)) rfl rfl rfl rfl rfl rfl rfl rfl rfl rfl)) weak_id rfl ?_
          refine wkz ?_
          refine dz_w rfl (spx 100076 rfl rfl rfl rfl rfl rfl rfl rfl) ?_
          refine wkz ?_
          cases H
          refine iq_n ?_
          refine weak_trans (weak_toN 215 rfl rfl rfl) ?_
          refine weak_trans (weak_toN 216 rfl rfl rfl) ?_
          refine weak_trans (weak_toN 217 rfl rfl rfl) ?_
          exact weak_of ⟨rfl, rfl, rfl, rfl, rfl, rfl, rfl, rfl, rfl, rfl, rfl, rfl, rfl, rfl, rfl, rfl, rfl, rfl, trivial⟩ ⟨rfl, ⟨rfl, rfl⟩, rfl, ⟨rfl, rfl⟩, rfl, ⟨rfl, rfl⟩, rfl, ⟨rfl, rfl⟩, rfl, ⟨rfl, rfl⟩, rfl, ⟨rfl, rfl⟩, rfl, ⟨rfl, rfl⟩, rfl, ⟨rfl, rfl⟩, trivial⟩
    · have H := bf h H
      refine wkz ?_
      obtain ⟨r0, Hd, rfl⟩ := dnE H
      refine iq_e (fun hq => ?_)
      have H := Hd.trans (congrArg some hq)
      refine wkz ?_
      cases H
      refine clo_v ((weak_frz (o := 213) rfl rfl)) ?_
      refine clo_v ((weak_cast (k := 95) rfl rfl ⟨by first | rfl | simp, trivial⟩)) ?_
      refine clo_v ((weak_castv (o := 212) rfl rfl ⟨by first | rfl | simp, trivial⟩)) ?_
      refine clo_v ((weak_castv (o := 214) rfl rfl ⟨by first | rfl | simp, trivial⟩)) ?_
      refine clo_v (weak_swp (p := 215) (q := 210) rfl rfl rfl rfl) ?_
      refine clo_v (weak_swp (p := 216) (q := 211) rfl rfl rfl rfl) ?_
      refine clo_v (weak_swp (p := 217) (q := 212) rfl rfl rfl rfl) ?_
      exact fin_retV (.cons (.cell rfl rfl rfl) .nil) rfl (by first | rfl | simp) trivial ⟨rfl, rfl, rfl, trivial⟩
def iIsValidPool (a0 : TServerPool) : Option Bool :=
  Option.bind (iInRange a0.Size 1 6) fun r1 => Option.bind (bif r1 then (bif leB 0 a0.Size then (Option.bind (iInRange a0.UpMask 0 (WR ((bShl .i64 1 a0.Size) - 1))) fun r3 => some r3) else none) else (some false)) fun (v2 : Bool) => some v2
theorem iIsValidPool_c {a0 : TServerPool} {r : Bool} (H : iIsValidPool a0 = some r) : Fn Tryz.prog 36 [.agg (eTServerPool a0)] [.c (.d (.b r))] := by
  refine fn_in Tryz.func36 rfl (by kernel_rfl) Tryz.ntmps36 rfl rfl rfl ?_
  refine wkd ?_
  obtain ⟨r1, hr1, H⟩ := ob H
  refine dr_n rfl (ca rfl rfl rfl (iInRange_c hr1) trivial rfl rfl rfl rfl) ?_
  refine wkd ?_
  obtain ⟨v2, Hj, H⟩ := ob H
  refine dr_join ⟨[(2, tB v2)], [], 0⟩ ?_ ?_
  · have H := Hj
    refine wkd ?_
    refine dg2 rfl rfl rfl (fun h => ?_) (fun h => ?_)
    · have H := bt h H
      refine wkd ?_
      obtain ⟨h, H⟩ := rq H
      refine dr_ng rfl rfl rfl rfl (ishT h rfl rfl rfl rfl) ?_
      refine wkd ?_
      obtain ⟨r3, hr3, H⟩ := ob H
      refine dr_ng rfl rfl rfl rfl (ca rfl rfl rfl (iInRange_c hr3) trivial rfl rfl rfl rfl) ?_
      refine wkd ?_
      cases H
      exact weak_of ⟨rfl, rfl, trivial⟩ trivial
    · have H := bf h H
      refine wkd ?_
      cases H
      exact weak_of ⟨rfl, rfl, trivial⟩ trivial
  refine wkd ?_
  cases H
  exact fin_ret (.cons (.tmp rfl) .nil) rfl rfl rfl
def iIsValidUSIM (a0 : TUSIM) : Option Bool :=
  Option.bind (iIsValidSubscriberID a0.ID) fun r1 => Option.bind (bif r1 then (Option.bind (iIsValidKey a0.Key) fun r3 => bif r3 then (Option.bind (iInRange a0.LastSeq 0 999999) fun r4 => some r4) else (some false)) else (some false)) fun (v2 : Bool) => some v2
theorem iIsValidUSIM_c {a0 : TUSIM} {r : Bool} (H : iIsValidUSIM a0 = some r) : Fn Tryz.prog 43 [.agg (eTUSIM a0)] [.c (.d (.b r))] := by
  refine fn_in Tryz.func43 rfl (by kernel_rfl) Tryz.ntmps43 rfl rfl rfl ?_
  refine wk ?_
  obtain ⟨r1, hr1, H⟩ := ob H
  refine awr_n rfl (ca rfl rfl rfl (iIsValidSubscriberID_c hr1) trivial rfl rfl rfl rfl) ?_
  refine wk ?_
  obtain ⟨v2, Hj, H⟩ := ob H
  refine awr_join ⟨[(2, tB v2)], [], 0⟩ ?_ ?_
  · have H := Hj
    refine wk ?_
    refine g2 rfl rfl rfl (fun h => ?_) (fun h => ?_)
    · have H := bt h H
      refine wk ?_
      obtain ⟨r3, hr3, H⟩ := ob H
      refine awr_ng rfl rfl rfl rfl (ca rfl rfl rfl (iIsValidKey_c hr3) trivial rfl rfl rfl rfl) ?_
      refine wk ?_
      refine g2 rfl rfl rfl (fun h => ?_) (fun h => ?_)
      · have H := bt h H
        refine wk ?_
        obtain ⟨r4, hr4, H⟩ := ob H
        refine awr_ng rfl rfl rfl rfl (ca rfl rfl rfl (iInRange_c hr4) trivial rfl rfl rfl rfl) ?_
        refine wk ?_
        cases H
        exact weak_of ⟨rfl, rfl, trivial⟩ trivial
      · have H := bf h H
        refine wk ?_
        cases H
        exact weak_of ⟨rfl, rfl, trivial⟩ trivial
    · have H := bf h H
      refine wk ?_
      cases H
      exact weak_of ⟨rfl, rfl, trivial⟩ trivial
  refine wk ?_
  cases H
  exact fin_ret (.cons (.tmp rfl) .nil) rfl rfl rfl
def ifitPayload_L1 (a0 : List TPayload) : Int → Option (Step (Int) (Bool))
  | v1 => bif ltB v1 ((a0.length : Nat) : Int) then (Option.bind (ix a0 v1) fun x2 => bif ltB 60 ((x2.Data.length : Nat) : Int) then (dn (some false)) else (some (.next (WR (v1 + 1))))) else (dn (some true))
def ifitPayload (a0 : List TPayload) : Option Bool :=
  iter (ifitPayload_L1 a0) FU 0
theorem ifitPayload_c {a0 : List TPayload} {r : Bool} (H : ifitPayload a0 = some r) : Fn Tryz.prog 91 [aL (a0.map eTPayload)] [.c (.d (.b r))] := by
  refine fn_in Tryz.func91 rfl (by kernel_rfl) Tryz.ntmps91 rfl rfl rfl ?_
  refine wk ?_
  refine awc_iter (fun (q : Int) => ⟨[(5, .v (.c (.d false (.l (a0.map eTPayload))))), (6, tI ((a0.length : Nat) : Int)), (7, tI q)], [], 0⟩) H (weak_of ⟨rfl, rfl, rfl, rfl, rfl, rfl, trivial⟩ trivial) ?_
  rintro v1 o H
  try dsimp only
  refine wk ?_
  refine awc_cond rfl (fun h => ?_) (fun h => ?_)
  · have H := bt h H
    refine wk ?_
    obtain ⟨x2, hx2, H⟩ := ob H
    refine awr_n rfl (xdT (enc := eTPayload) hx2 (fun _ => rfl) rfl rfl rfl) ?_
    refine wk ?_
    refine awc_cond rfl (fun h => ?_) (fun h => ?_)
    · have H := bt h H
      refine wk ?_
      obtain ⟨r0, Hd, rfl⟩ := dnE H
      refine iq_r (fun hq => ?_)
      have H := Hd.trans (congrArg some hq)
      refine wk ?_
      cases H
      exact fin_ret (.cons (.tmp rfl) .nil) rfl rfl rfl
    · have H := bf h H
      refine wk ?_
      cases H
      refine iq_n ?_
      exact weak_of ⟨rfl, rfl, rfl, rfl, rfl, rfl, trivial⟩ trivial
  · have H := bf h H
    refine wk ?_
    obtain ⟨r0, Hd, rfl⟩ := dnE H
    refine iq_e (fun hq => ?_)
    have H := Hd.trans (congrArg some hq)
    refine wk ?_
    cases H
    exact fin_ret (.cons (.tmp rfl) .nil) rfl rfl rfl
def iIsValidReceiver_L1 (a0 : TReceiveWindow) : Int → Option (Step (Int) (Bool))
  | v3 => bif ltB v3 ((a0.Pending.length : Nat) : Int) then (Option.bind (ix a0.Pending v3) fun x4 => Option.bind (bif ltB 60 ((x4.Data.length : Nat) : Int) then (some true) else (Option.bind (iInRange x4.Seq (WR (a0.Next + 1)) (WR ((WR (a0.Next + 8)) - 1))) fun r6 => some (!r6))) fun (v5 : Bool) => bif v5 then (dn (some false)) else (Option.bind (bif ltB 0 v3 then (Option.bind (ix a0.Pending (WR (v3 - 1))) fun x8 => some (leB x4.Seq x8.Seq)) else (some false)) fun (v7 : Bool) => bif v7 then (dn (some false)) else (some (.next (WR (v3 + 1)))))) else (dn (some true))
def iIsValidReceiver (a0 : TReceiveWindow) : Option Bool :=
  Option.bind (bif !eqB a0.Next (WR (((a0.Delivered.length : Nat) : Int) + 1)) then (some true) else (bif ltB 24 ((a0.Delivered.length : Nat) : Int) then (some true) else (Option.bind (ifitPayload a0.Delivered) fun r2 => bif !r2 then (some true) else (some (ltB 8 ((a0.Pending.length : Nat) : Int)))))) fun (v1 : Bool) => bif v1 then (some false) else (iter (iIsValidReceiver_L1 a0) FU 0)
theorem iIsValidReceiver_c {a0 : TReceiveWindow} {r : Bool} (H : iIsValidReceiver a0 = some r) : Fn Tryz.prog 87 [.agg (eTReceiveWindow a0)] [.c (.d (.b r))] := by
  refine fn_in Tryz.func87 rfl (by kernel_rfl) Tryz.ntmps87 rfl rfl rfl ?_
  refine wkd ?_
  obtain ⟨v1, Hj, H⟩ := ob H
  refine awr_join ⟨[(1, .v (.c (.p 0 0))), (29, tB v1)], [(0, .var 50 [.d false (.i .i64 a0.Next), .d false (.l (a0.Pending.map eTNumberedPacket)), .d false (.l (a0.Delivered.map eTPayload))])], 1⟩ ?_ ?_
  · have H := Hj
    refine wkd ?_
    refine g2 rfl rfl rfl (fun h => ?_) (fun h => ?_)
    · have H := bt h H
      refine wkd ?_
      cases H
      exact weak_of ⟨rfl, rfl, rfl, rfl, trivial⟩ ⟨rfl, ⟨rfl, rfl⟩, trivial⟩
    · have H := bf h H
      refine wkd ?_
      refine g2 rfl rfl rfl (fun h => ?_) (fun h => ?_)
      · have H := bt h H
        refine wkd ?_
        cases H
        exact weak_of ⟨rfl, rfl, rfl, rfl, trivial⟩ ⟨rfl, ⟨rfl, rfl⟩, trivial⟩
      · have H := bf h H
        refine wkd ?_
        obtain ⟨r2, hr2, H⟩ := ob H
        refine awr_ng rfl rfl rfl rfl (ca rfl rfl rfl (ifitPayload_c hr2) trivial rfl rfl rfl rfl) ?_
        refine wkd ?_
        refine g2 rfl rfl rfl (fun h => ?_) (fun h => ?_)
        · have H := bt h H
          refine wkd ?_
          cases H
          exact weak_of ⟨rfl, rfl, rfl, rfl, trivial⟩ ⟨rfl, ⟨rfl, rfl⟩, trivial⟩
        · have H := bf h H
          refine wkd ?_
          cases H
          exact weak_of ⟨rfl, rfl, rfl, rfl, trivial⟩ ⟨rfl, ⟨rfl, rfl⟩, trivial⟩
  refine wkd ?_
  refine awc_cond rfl (fun h => ?_) (fun h => ?_)
  · have H := bt h H
    refine wkd ?_
    cases H
    exact fin_ret (.cons (.tmp rfl) .nil) rfl rfl rfl
  · have H := bf h H
    refine wkd ?_
    refine awc_iter (fun (q : Int) => ⟨[(1, .v (.c (.p 0 0))), (31, .v (.c (.d false (.l (a0.Pending.map eTNumberedPacket))))), (32, tI ((a0.Pending.length : Nat) : Int)), (33, tI q)], [(0, .var 50 [.d false (.i .i64 a0.Next), .d false (.l (a0.Pending.map eTNumberedPacket)), .d false (.l (a0.Delivered.map eTPayload))])], 1⟩) H (weak_of ⟨rfl, rfl, rfl, rfl, rfl, rfl, rfl, rfl, trivial⟩ ⟨rfl, ⟨rfl, rfl⟩, trivial⟩) ?_
    rintro v3 o H
    try dsimp only
    refine wkd ?_
    refine awc_cond rfl (fun h => ?_) (fun h => ?_)
    · have H := bt h H
      refine wkd ?_
      obtain ⟨x4, hx4, H⟩ := ob H
      refine awr_n rfl (xdT (enc := eTNumberedPacket) hx4 (fun _ => rfl) rfl rfl rfl) ?_
      refine wkd ?_
      obtain ⟨v5, Hj, H⟩ := ob H
      refine awr_join ⟨[(1, .v (.c (.p 0 0))), (3, tI v3), (4, .v (.c (.p 1 0))), (31, .v (.c (.d false (.l (a0.Pending.map eTNumberedPacket))))), (32, tI ((a0.Pending.length : Nat) : Int)), (33, tI v3), (54, tB v5)], [(0, .var 50 [.d false (.i .i64 a0.Next), .d false (.l (a0.Pending.map eTNumberedPacket)), .d false (.l (a0.Delivered.map eTPayload))]), (1, .var 134 [.d false (.i .i64 x4.Seq), .d false (.l (x4.Data.map eU8))])], 2⟩ ?_ ?_
      · have H := Hj
        refine wkd ?_
        refine g2 rfl rfl rfl (fun h => ?_) (fun h => ?_)
        · have H := bt h H
          refine wkd ?_
          cases H
          exact weak_of ⟨rfl, rfl, rfl, rfl, rfl, rfl, rfl, rfl, rfl, rfl, rfl, rfl, rfl, rfl, trivial⟩ ⟨rfl, ⟨rfl, rfl⟩, rfl, ⟨rfl, rfl⟩, trivial⟩
        · have H := bf h H
          refine wkd ?_
          obtain ⟨r6, hr6, H⟩ := ob H
          refine awr_ng rfl rfl rfl rfl (ca rfl rfl rfl (iInRange_c hr6) trivial rfl rfl rfl rfl) ?_
          refine wkd ?_
          cases H
          exact weak_of ⟨rfl, rfl, rfl, rfl, rfl, rfl, rfl, rfl, rfl, rfl, rfl, rfl, rfl, rfl, trivial⟩ ⟨rfl, ⟨rfl, rfl⟩, rfl, ⟨rfl, rfl⟩, trivial⟩
      refine wkd ?_
      refine awc_cond rfl (fun h => ?_) (fun h => ?_)
      · have H := bt h H
        refine wkd ?_
        obtain ⟨r0, Hd, rfl⟩ := dnE H
        refine iq_r (fun hq => ?_)
        have H := Hd.trans (congrArg some hq)
        refine wkd ?_
        cases H
        exact fin_ret (.cons (.tmp rfl) .nil) rfl rfl rfl
      · have H := bf h H
        refine wkd ?_
        obtain ⟨v7, Hj, H⟩ := ob H
        refine dr_join ⟨[(1, .v (.c (.p 0 0))), (31, .v (.c (.d false (.l (a0.Pending.map eTNumberedPacket))))), (32, tI ((a0.Pending.length : Nat) : Int)), (33, tI v3), (68, tB v7)], [(0, .var 50 [.d false (.i .i64 a0.Next), .d false (.l (a0.Pending.map eTNumberedPacket)), .d false (.l (a0.Delivered.map eTPayload))])], 1⟩ ?_ ?_
        · have H := Hj
          refine wkd ?_
          refine dg2 rfl rfl rfl (fun h => ?_) (fun h => ?_)
          · have H := bt h H
            refine wkd ?_
            obtain ⟨x8, hx8, H⟩ := ob H
            refine dr_ng rfl rfl rfl rfl (xdT (enc := eTNumberedPacket) hx8 (fun _ => rfl) rfl rfl rfl) ?_
            refine wkd ?_
            cases H
            exact weak_of ⟨rfl, rfl, rfl, rfl, rfl, rfl, rfl, rfl, rfl, rfl, trivial⟩ ⟨rfl, ⟨rfl, rfl⟩, trivial⟩
          · have H := bf h H
            refine wkd ?_
            cases H
            exact weak_of ⟨rfl, rfl, rfl, rfl, rfl, rfl, rfl, rfl, rfl, rfl, trivial⟩ ⟨rfl, ⟨rfl, rfl⟩, trivial⟩
        refine wkd ?_
        refine awc_cond rfl (fun h => ?_) (fun h => ?_)
        · have H := bt h H
          refine wkd ?_
          obtain ⟨r0, Hd, rfl⟩ := dnE H
          refine iq_r (fun hq => ?_)
          have H := Hd.trans (congrArg some hq)
          refine wkd ?_
          cases H
          exact fin_ret (.cons (.tmp rfl) .nil) rfl rfl rfl
        · have H := bf h H
          refine wkd ?_
          cases H
          refine iq_n ?_
          exact weak_of ⟨rfl, rfl, rfl, rfl, rfl, rfl, rfl, rfl, trivial⟩ ⟨rfl, ⟨rfl, rfl⟩, trivial⟩
    · have H := bf h H
      refine wkd ?_
      obtain ⟨r0, Hd, rfl⟩ := dnE H
      refine iq_e (fun hq => ?_)
      have H := Hd.trans (congrArg some hq)
      refine wkd ?_
      cases H
      exact fin_ret (.cons (.tmp rfl) .nil) rfl rfl rfl
def iIsValidDevice (a0 : TDevice) : Option Bool :=
  Option.bind (iIsValidUSIM a0.Card) fun r1 => Option.bind (bif !r1 then (some true) else (Option.bind (iInRange a0.State 0 3) fun r3 => bif !r3 then (some true) else (Option.bind (iInRange a0.Cell 0 5) fun r4 => some (!r4)))) fun (v2 : Bool) => bif v2 then (some false) else (Option.bind (iInRange a0.Generation 0 999999) fun r5 => Option.bind (bif !r5 then (some true) else (Option.bind (iInRange a0.Epoch 0 999999) fun r7 => bif !r7 then (some true) else (Option.bind (iInRange a0.RootKey 0 2147483646) fun r8 => some (!r8)))) fun (v6 : Bool) => bif v6 then (some false) else (Option.bind (bif eqB a0.State 2 then (Option.bind (iIsValidKey a0.RootKey) fun r10 => some (!r10)) else (bif eqB a0.State 3 then (Option.bind (iIsValidKey a0.RootKey) fun r11 => some (!r11)) else (some false))) fun (v9 : Bool) => bif v9 then (some false) else (Option.bind (iInRange a0.Wait 0 3) fun r12 => Option.bind (bif r12 then (Option.bind (iIsValidReceiver a0.Receiver) fun r14 => some r14) else (some false)) fun (v13 : Bool) => some v13)))
theorem iIsValidDevice_c {a0 : TDevice} {r : Bool} (H : iIsValidDevice a0 = some r) : Fn Tryz.prog 63 [.agg (eTDevice a0)] [.c (.d (.b r))] := by
  refine fn_in Tryz.func63 rfl (by kernel_rfl) Tryz.ntmps63 rfl rfl rfl ?_
  refine wk ?_
  obtain ⟨r1, hr1, H⟩ := ob H
  refine awr_n rfl (ca rfl rfl rfl (iIsValidUSIM_c hr1) trivial rfl rfl rfl rfl) ?_
  refine wk ?_
  obtain ⟨v2, Hj, H⟩ := ob H
  refine awr_join ⟨[(1, .v (.c (.p 0 0))), (18, tB v2)], [(0, .var 52 [.d false (.i .i64 a0.Card.ID.Network), .d false (.i .i64 a0.Card.ID.Number), .d false (.i .i64 a0.Card.Key), .d false (.i .i64 a0.Card.LastSeq), .d false (.i .i64 a0.State), .d false (.i .i64 a0.Cell), .d false (.i .i64 a0.Generation), .d false (.i .i64 a0.RootKey), .d false (.i .i64 a0.Epoch), .d false (.b a0.PathConfirmed), .d false (.i .i64 a0.Wait), .d false (.i .i64 a0.Receiver.Next), .d false (.l (a0.Receiver.Pending.map eTNumberedPacket)), .d false (.l (a0.Receiver.Delivered.map eTPayload))])], 1⟩ ?_ ?_
  · have H := Hj
    refine wk ?_
    refine g2 rfl rfl rfl (fun h => ?_) (fun h => ?_)
    · have H := bt h H
      refine wk ?_
      cases H
      exact weak_of ⟨rfl, rfl, rfl, rfl, trivial⟩ ⟨rfl, ⟨rfl, rfl⟩, trivial⟩
    · have H := bf h H
      refine wk ?_
      obtain ⟨r3, hr3, H⟩ := ob H
      refine awr_ng rfl rfl rfl rfl (ca rfl rfl rfl (iInRange_c hr3) trivial rfl rfl rfl rfl) ?_
      refine wk ?_
      refine g2 rfl rfl rfl (fun h => ?_) (fun h => ?_)
      · have H := bt h H
        refine wk ?_
        cases H
        exact weak_of ⟨rfl, rfl, rfl, rfl, trivial⟩ ⟨rfl, ⟨rfl, rfl⟩, trivial⟩
      · have H := bf h H
        refine wk ?_
        obtain ⟨r4, hr4, H⟩ := ob H
        refine awr_ng rfl rfl rfl rfl (ca rfl rfl rfl (iInRange_c hr4) trivial rfl rfl rfl rfl) ?_
        refine wk ?_
        cases H
        exact weak_of ⟨rfl, rfl, rfl, rfl, trivial⟩ ⟨rfl, ⟨rfl, rfl⟩, trivial⟩
  refine wk ?_
  refine awc_cond rfl (fun h => ?_) (fun h => ?_)
  · have H := bt h H
    refine wk ?_
    cases H
    exact fin_ret (.cons (.tmp rfl) .nil) rfl rfl rfl
  · have H := bf h H
    refine wk ?_
    obtain ⟨r5, hr5, H⟩ := ob H
    refine awr_n rfl (ca rfl rfl rfl (iInRange_c hr5) trivial rfl rfl rfl rfl) ?_
    refine wk ?_
    obtain ⟨v6, Hj, H⟩ := ob H
    refine awr_join ⟨[(1, .v (.c (.p 0 0))), (34, tB v6)], [(0, .var 52 [.d false (.i .i64 a0.Card.ID.Network), .d false (.i .i64 a0.Card.ID.Number), .d false (.i .i64 a0.Card.Key), .d false (.i .i64 a0.Card.LastSeq), .d false (.i .i64 a0.State), .d false (.i .i64 a0.Cell), .d false (.i .i64 a0.Generation), .d false (.i .i64 a0.RootKey), .d false (.i .i64 a0.Epoch), .d false (.b a0.PathConfirmed), .d false (.i .i64 a0.Wait), .d false (.i .i64 a0.Receiver.Next), .d false (.l (a0.Receiver.Pending.map eTNumberedPacket)), .d false (.l (a0.Receiver.Delivered.map eTPayload))])], 1⟩ ?_ ?_
    · have H := Hj
      refine wk ?_
      refine g2 rfl rfl rfl (fun h => ?_) (fun h => ?_)
      · have H := bt h H
        refine wk ?_
        cases H
        exact weak_of ⟨rfl, rfl, rfl, rfl, trivial⟩ ⟨rfl, ⟨rfl, rfl⟩, trivial⟩
      · have H := bf h H
        refine wk ?_
        obtain ⟨r7, hr7, H⟩ := ob H
        refine awr_ng rfl rfl rfl rfl (ca rfl rfl rfl (iInRange_c hr7) trivial rfl rfl rfl rfl) ?_
        refine wk ?_
        refine g2 rfl rfl rfl (fun h => ?_) (fun h => ?_)
        · have H := bt h H
          refine wk ?_
          cases H
          exact weak_of ⟨rfl, rfl, rfl, rfl, trivial⟩ ⟨rfl, ⟨rfl, rfl⟩, trivial⟩
        · have H := bf h H
          refine wk ?_
          obtain ⟨r8, hr8, H⟩ := ob H
          refine awr_ng rfl rfl rfl rfl (ca rfl rfl rfl (iInRange_c hr8) trivial rfl rfl rfl rfl) ?_
          refine wk ?_
          cases H
          exact weak_of ⟨rfl, rfl, rfl, rfl, trivial⟩ ⟨rfl, ⟨rfl, rfl⟩, trivial⟩
    refine wk ?_
    refine awc_cond rfl (fun h => ?_) (fun h => ?_)
    · have H := bt h H
      refine wk ?_
      cases H
      exact fin_ret (.cons (.tmp rfl) .nil) rfl rfl rfl
    · have H := bf h H
      refine wk ?_
      obtain ⟨v9, Hj, H⟩ := ob H
      refine awr_join ⟨[(1, .v (.c (.p 0 0))), (48, tB v9)], [(0, .var 52 [.d false (.i .i64 a0.Card.ID.Network), .d false (.i .i64 a0.Card.ID.Number), .d false (.i .i64 a0.Card.Key), .d false (.i .i64 a0.Card.LastSeq), .d false (.i .i64 a0.State), .d false (.i .i64 a0.Cell), .d false (.i .i64 a0.Generation), .d false (.i .i64 a0.RootKey), .d false (.i .i64 a0.Epoch), .d false (.b a0.PathConfirmed), .d false (.i .i64 a0.Wait), .d false (.i .i64 a0.Receiver.Next), .d false (.l (a0.Receiver.Pending.map eTNumberedPacket)), .d false (.l (a0.Receiver.Delivered.map eTPayload))])], 1⟩ ?_ ?_
      · have H := Hj
        refine wk ?_
        refine g2 rfl rfl rfl (fun h => ?_) (fun h => ?_)
        · have H := bt h H
          refine wk ?_
          obtain ⟨r10, hr10, H⟩ := ob H
          refine awr_ng rfl rfl rfl rfl (ca rfl rfl rfl (iIsValidKey_c hr10) trivial rfl rfl rfl rfl) ?_
          refine wk ?_
          cases H
          exact weak_of ⟨rfl, rfl, rfl, rfl, trivial⟩ ⟨rfl, ⟨rfl, rfl⟩, trivial⟩
        · have H := bf h H
          refine wk ?_
          refine g2 rfl rfl rfl (fun h => ?_) (fun h => ?_)
          · have H := bt h H
            refine wk ?_
            obtain ⟨r11, hr11, H⟩ := ob H
            refine awr_ng rfl rfl rfl rfl (ca rfl rfl rfl (iIsValidKey_c hr11) trivial rfl rfl rfl rfl) ?_
            refine wk ?_
            cases H
            exact weak_of ⟨rfl, rfl, rfl, rfl, trivial⟩ ⟨rfl, ⟨rfl, rfl⟩, trivial⟩
          · have H := bf h H
            refine wk ?_
            cases H
            exact weak_of ⟨rfl, rfl, rfl, rfl, trivial⟩ ⟨rfl, ⟨rfl, rfl⟩, trivial⟩
      refine wk ?_
      refine awc_cond rfl (fun h => ?_) (fun h => ?_)
      · have H := bt h H
        refine wk ?_
        cases H
        exact fin_ret (.cons (.tmp rfl) .nil) rfl rfl rfl
      · have H := bf h H
        refine wk ?_
        obtain ⟨r12, hr12, H⟩ := ob H
        refine awr_n rfl (ca rfl rfl rfl (iInRange_c hr12) trivial rfl rfl rfl rfl) ?_
        refine wk ?_
        obtain ⟨v13, Hj, H⟩ := ob H
        refine awr_join ⟨[(2, tB v13)], [], 0⟩ ?_ ?_
        · have H := Hj
          refine wk ?_
          refine g2 rfl rfl rfl (fun h => ?_) (fun h => ?_)
          · have H := bt h H
            refine wk ?_
            obtain ⟨r14, hr14, H⟩ := ob H
            refine awr_ng rfl rfl rfl rfl (ca rfl rfl rfl (iIsValidReceiver_c hr14) trivial rfl rfl rfl rfl) ?_
            refine wk ?_
            cases H
            exact weak_of ⟨rfl, rfl, trivial⟩ trivial
          · have H := bf h H
            refine wk ?_
            cases H
            exact weak_of ⟨rfl, rfl, trivial⟩ trivial
        refine wk ?_
        cases H
        exact fin_ret (.cons (.tmp rfl) .nil) rfl rfl rfl
def iIsValidPaging (a0 : TPagingState) : Option Bool :=
  Option.bind (iInRange a0.Area 0 2) fun r1 => Option.bind (bif r1 then (Option.bind (iInRange a0.Attempt 0 4) fun r3 => bif r3 then (Option.bind (iInRange a0.Wait 0 3) fun r4 => some r4) else (some false)) else (some false)) fun (v2 : Bool) => some v2
theorem iIsValidPaging_c {a0 : TPagingState} {r : Bool} (H : iIsValidPaging a0 = some r) : Fn Tryz.prog 88 [.agg (eTPagingState a0)] [.c (.d (.b r))] := by
  refine fn_in Tryz.func88 rfl (by kernel_rfl) Tryz.ntmps88 rfl rfl rfl ?_
  refine wk ?_
  obtain ⟨r1, hr1, H⟩ := ob H
  refine awr_n rfl (ca rfl rfl rfl (iInRange_c hr1) trivial rfl rfl rfl rfl) ?_
  refine wk ?_
  obtain ⟨v2, Hj, H⟩ := ob H
  refine awr_join ⟨[(2, tB v2)], [], 0⟩ ?_ ?_
  · have H := Hj
    refine wk ?_
    refine g2 rfl rfl rfl (fun h => ?_) (fun h => ?_)
    · have H := bt h H
      refine wk ?_
      obtain ⟨r3, hr3, H⟩ := ob H
      refine awr_ng rfl rfl rfl rfl (ca rfl rfl rfl (iInRange_c hr3) trivial rfl rfl rfl rfl) ?_
      refine wk ?_
      refine g2 rfl rfl rfl (fun h => ?_) (fun h => ?_)
      · have H := bt h H
        refine wk ?_
        obtain ⟨r4, hr4, H⟩ := ob H
        refine awr_ng rfl rfl rfl rfl (ca rfl rfl rfl (iInRange_c hr4) trivial rfl rfl rfl rfl) ?_
        refine wk ?_
        cases H
        exact weak_of ⟨rfl, rfl, trivial⟩ trivial
      · have H := bf h H
        refine wk ?_
        cases H
        exact weak_of ⟨rfl, rfl, trivial⟩ trivial
    · have H := bf h H
      refine wk ?_
      cases H
      exact weak_of ⟨rfl, rfl, trivial⟩ trivial
  refine wk ?_
  cases H
  exact fin_ret (.cons (.tmp rfl) .nil) rfl rfl rfl
def iIsValidSender_L1 (a0 : TSendWindow) : Int → Option (Step (Int) (Bool))
  | v3 => bif ltB v3 ((a0.Unacked.length : Nat) : Int) then (Option.bind (ix a0.Unacked v3) fun x4 => Option.bind (bif !eqB x4.Seq (WR ((WR (a0.Next - ((a0.Unacked.length : Nat) : Int))) + v3)) then (some true) else (some (ltB 60 ((x4.Data.length : Nat) : Int)))) fun (v5 : Bool) => bif v5 then (dn (some false)) else (some (.next (WR (v3 + 1))))) else (dn (some true))
def iIsValidSender (a0 : TSendWindow) : Option Bool :=
  Option.bind (iInRange a0.Next 1 100000) fun r1 => Option.bind (bif !r1 then (some true) else (some (ltB 8 ((a0.Unacked.length : Nat) : Int)))) fun (v2 : Bool) => bif v2 then (some false) else (bif ltB (WR (a0.Next - ((a0.Unacked.length : Nat) : Int))) 1 then (some false) else (iter (iIsValidSender_L1 a0) FU 0))
theorem iIsValidSender_c {a0 : TSendWindow} {r : Bool} (H : iIsValidSender a0 = some r) : Fn Tryz.prog 89 [.agg (eTSendWindow a0)] [.c (.d (.b r))] := by
  refine fn_in Tryz.func89 rfl (by kernel_rfl) Tryz.ntmps89 rfl rfl rfl ?_
  refine wk ?_
  obtain ⟨r1, hr1, H⟩ := ob H
  refine awr_n rfl (ca rfl rfl rfl (iInRange_c hr1) trivial rfl rfl rfl rfl) ?_
  refine wk ?_
  obtain ⟨v2, Hj, H⟩ := ob H
  refine awr_join ⟨[(1, .v (.c (.p 0 0))), (15, tB v2)], [(0, .var 61 [.d false (.i .i64 a0.Next), .d false (.l (a0.Unacked.map eTNumberedPacket))])], 1⟩ ?_ ?_
  · have H := Hj
    refine wk ?_
    refine g2 rfl rfl rfl (fun h => ?_) (fun h => ?_)
    · have H := bt h H
      refine wk ?_
      cases H
      exact weak_of ⟨rfl, rfl, rfl, rfl, trivial⟩ ⟨rfl, ⟨rfl, rfl⟩, trivial⟩
    · have H := bf h H
      refine wk ?_
      cases H
      exact weak_of ⟨rfl, rfl, rfl, rfl, trivial⟩ ⟨rfl, ⟨rfl, rfl⟩, trivial⟩
  refine wk ?_
  refine awc_cond rfl (fun h => ?_) (fun h => ?_)
  · have H := bt h H
    refine wk ?_
    cases H
    exact fin_ret (.cons (.tmp rfl) .nil) rfl rfl rfl
  · have H := bf h H
    refine wk ?_
    refine awc_cond rfl (fun h => ?_) (fun h => ?_)
    · have H := bt h H
      refine wk ?_
      cases H
      exact fin_ret (.cons (.tmp rfl) .nil) rfl rfl rfl
    · have H := bf h H
      refine wk ?_
      refine awc_iter (fun (q : Int) => ⟨[(3, tI (WR (a0.Next - ((a0.Unacked.length : Nat) : Int)))), (25, .v (.c (.d false (.l (a0.Unacked.map eTNumberedPacket))))), (26, tI ((a0.Unacked.length : Nat) : Int)), (27, tI q)], [], 0⟩) H (weak_of ⟨rfl, rfl, rfl, rfl, rfl, rfl, rfl, rfl, trivial⟩ trivial) ?_
      rintro v3 o H
      try dsimp only
      refine wk ?_
      refine awc_cond rfl (fun h => ?_) (fun h => ?_)
      · have H := bt h H
        refine wk ?_
        obtain ⟨x4, hx4, H⟩ := ob H
        refine awr_n rfl (xdT (enc := eTNumberedPacket) hx4 (fun _ => rfl) rfl rfl rfl) ?_
        refine wk ?_
        obtain ⟨v5, Hj, H⟩ := ob H
        refine awr_join ⟨[(3, tI (WR (a0.Next - ((a0.Unacked.length : Nat) : Int)))), (25, .v (.c (.d false (.l (a0.Unacked.map eTNumberedPacket))))), (26, tI ((a0.Unacked.length : Nat) : Int)), (27, tI v3), (43, tB v5)], [], 0⟩ ?_ ?_
        · have H := Hj
          refine wk ?_
          refine g2 rfl rfl rfl (fun h => ?_) (fun h => ?_)
          · have H := bt h H
            refine wk ?_
            cases H
            exact weak_of ⟨rfl, rfl, rfl, rfl, rfl, rfl, rfl, rfl, rfl, rfl, trivial⟩ trivial
          · have H := bf h H
            refine wk ?_
            cases H
            exact weak_of ⟨rfl, rfl, rfl, rfl, rfl, rfl, rfl, rfl, rfl, rfl, trivial⟩ trivial
        refine wk ?_
        refine awc_cond rfl (fun h => ?_) (fun h => ?_)
        · have H := bt h H
          refine wk ?_
          obtain ⟨r0, Hd, rfl⟩ := dnE H
          refine iq_r (fun hq => ?_)
          have H := Hd.trans (congrArg some hq)
          refine wk ?_
          cases H
          exact fin_ret (.cons (.tmp rfl) .nil) rfl rfl rfl
        · have H := bf h H
          refine wk ?_
          cases H
          refine iq_n ?_
          exact weak_of ⟨rfl, rfl, rfl, rfl, rfl, rfl, rfl, rfl, trivial⟩ trivial
      · have H := bf h H
        refine wk ?_
        obtain ⟨r0, Hd, rfl⟩ := dnE H
        refine iq_e (fun hq => ?_)
        have H := Hd.trans (congrArg some hq)
        refine wk ?_
        cases H
        exact fin_ret (.cons (.tmp rfl) .nil) rfl rfl rfl
def iIsValidQuota (a0 : TQuota) : Option Bool :=
  Option.bind (bif leB 0 a0.SessionID then (bif leB 0 a0.Used then (bif leB a0.Used a0.Granted then (some (leB a0.Granted 100000)) else (some false)) else (some false)) else (some false)) fun (v1 : Bool) => some v1
theorem iIsValidQuota_c {a0 : TQuota} {r : Bool} (H : iIsValidQuota a0 = some r) : Fn Tryz.prog 90 [.agg (eTQuota a0)] [.c (.d (.b r))] := by
  refine fn_in Tryz.func90 rfl (by kernel_rfl) Tryz.ntmps90 rfl rfl rfl ?_
  refine wk ?_
  obtain ⟨v1, Hj, H⟩ := ob H
  refine awr_join ⟨[(2, tB v1)], [], 0⟩ ?_ ?_
  · have H := Hj
    refine wk ?_
    refine g2 rfl rfl rfl (fun h => ?_) (fun h => ?_)
    · have H := bt h H
      refine wk ?_
      refine g2 rfl rfl rfl (fun h => ?_) (fun h => ?_)
      · have H := bt h H
        refine wk ?_
        refine g2 rfl rfl rfl (fun h => ?_) (fun h => ?_)
        · have H := bt h H
          refine wk ?_
          cases H
          exact weak_of ⟨rfl, rfl, trivial⟩ trivial
        · have H := bf h H
          refine wk ?_
          cases H
          exact weak_of ⟨rfl, rfl, trivial⟩ trivial
      · have H := bf h H
        refine wk ?_
        cases H
        exact weak_of ⟨rfl, rfl, trivial⟩ trivial
    · have H := bf h H
      refine wk ?_
      cases H
      exact weak_of ⟨rfl, rfl, trivial⟩ trivial
  refine wk ?_
  cases H
  exact fin_ret (.cons (.tmp rfl) .nil) rfl rfl rfl
def iEqualBytes (a0 : List Int) (a1 : List Int) : Option Bool :=
  Option.bind (gbytes_Equal a0 a1) fun r1 => some r1
theorem iEqualBytes_c {a0 : List Int} {a1 : List Int} {r : Bool} (H : iEqualBytes a0 a1 = some r) : Fn Tryz.prog 92 [aL (a0.map eU8), aL (a1.map eU8)] [.c (.d (.b r))] := by
  refine fn_in Tryz.func92 rfl (by kernel_rfl) Tryz.ntmps92 rfl rfl rfl ?_
  refine wk ?_
  obtain ⟨r1, hr1, H⟩ := ob H
  refine awr_n rfl (ca rfl rfl rfl (gbytes_Equal_c hr1) trivial rfl rfl rfl rfl) ?_
  refine wk ?_
  cases H
  exact fin_ret (.cons (.tmp rfl) .nil) rfl rfl rfl
def inumberedBytes_L1 (a0 : List TNumberedPacket) : (Int × Int) → Option (Step (Int × Int) (Int))
  | (v1, v2) => bif ltB v2 ((a0.length : Nat) : Int) then (Option.bind (ix a0 v2) fun x5 => some (.next (WR (v1 + ((x5.Data.length : Nat) : Int)), WR (v2 + 1)))) else (some (.done v1))
def inumberedBytes (a0 : List TNumberedPacket) : Option Int :=
  Option.bind (iter (inumberedBytes_L1 a0) FU (0, 0)) fun (v4 : Int) => some v4
theorem inumberedBytes_c {a0 : List TNumberedPacket} {r : Int} (H : inumberedBytes a0 = some r) : Fn Tryz.prog 106 [aL (a0.map eTNumberedPacket)] [.c (.d (.i .i64 r))] := by
  refine fn_in Tryz.func106 rfl (by kernel_rfl) Tryz.ntmps106 rfl rfl rfl ?_
  refine wk ?_
  obtain ⟨v4, Hj, H⟩ := ob H
  refine awc_jblk ⟨[(3, tI v4)], [], 0⟩ ?_ ?_
  · refine wk ?_
    refine awc_iter (fun (q : Int × Int) => ⟨[(3, tI q.1), (6, .v (.c (.d false (.l (a0.map eTNumberedPacket))))), (7, tI ((a0.length : Nat) : Int)), (8, tI q.2)], [], 0⟩) Hj (weak_of ⟨rfl, rfl, rfl, rfl, rfl, rfl, rfl, rfl, trivial⟩ trivial) ?_
    rintro ⟨v1, v2⟩ o H
    try dsimp only
    refine wk ?_
    refine awc_cond rfl (fun h => ?_) (fun h => ?_)
    · have H := bt h H
      refine wk ?_
      obtain ⟨x5, hx5, H⟩ := ob H
      refine awr_n rfl (xdT (enc := eTNumberedPacket) hx5 (fun _ => rfl) rfl rfl rfl) ?_
      refine wk ?_
      cases H
      refine iq_n ?_
      exact weak_of ⟨rfl, rfl, rfl, rfl, rfl, rfl, rfl, rfl, trivial⟩ trivial
    · have H := bf h H
      refine wk ?_
      cases H
      refine iq_e (fun hq => ?_)
      cases hq
      refine wk ?_
      exact weak_of ⟨rfl, rfl, trivial⟩ trivial
  refine wk ?_
  cases H
  exact fin_ret (.cons (.tmp rfl) .nil) rfl rfl rfl
def iOutstandingBytes (a0 : TSession) : Option Int :=
  Option.bind (inumberedBytes a0.Window.Unacked) fun r1 => some r1
theorem iOutstandingBytes_c {a0 : TSession} {r : Int} (H : iOutstandingBytes a0 = some r) : Fn Tryz.prog 93 [.agg (eTSession a0)] [.c (.d (.i .i64 r))] := by
  refine fn_in Tryz.func93 rfl (by kernel_rfl) Tryz.ntmps93 rfl rfl rfl ?_
  refine wk ?_
  obtain ⟨r1, hr1, H⟩ := ob H
  refine awr_n rfl (ca rfl rfl rfl (inumberedBytes_c hr1) trivial rfl rfl rfl rfl) ?_
  refine wk ?_
  cases H
  exact fin_ret (.cons (.tmp rfl) .nil) rfl rfl rfl
def iRemainingQuota (a0 : TQuota) : Option Int :=
  Option.bind (iIsValidQuota a0) fun r1 => bif !r1 then (some 0) else (some (WR (a0.Granted - a0.Used)))
theorem iRemainingQuota_c {a0 : TQuota} {r : Int} (H : iRemainingQuota a0 = some r) : Fn Tryz.prog 94 [.agg (eTQuota a0)] [.c (.d (.i .i64 r))] := by
  refine fn_in Tryz.func94 rfl (by kernel_rfl) Tryz.ntmps94 rfl rfl rfl ?_
  refine wk ?_
  obtain ⟨r1, hr1, H⟩ := ob H
  refine awr_n rfl (ca rfl rfl rfl (iIsValidQuota_c hr1) trivial rfl rfl rfl rfl) ?_
  refine wk ?_
  refine awc_cond rfl (fun h => ?_) (fun h => ?_)
  · have H := bt h H
    refine wk ?_
    cases H
    exact fin_ret (.cons (.tmp rfl) .nil) rfl rfl rfl
  · have H := bf h H
    refine wk ?_
    cases H
    exact fin_ret (.cons (.tmp rfl) .nil) rfl rfl rfl
def iIsValidSession_L1 (a0 : TSession) : Int → Option (Step (Int) (Bool))
  | v23 => bif ltB v23 ((a0.Window.Unacked.length : Nat) : Int) then (Option.bind (ix a0.Window.Unacked v23) fun x24 => Option.bind (ix a0.Submitted (WR (x24.Seq - 1))) fun x25 => Option.bind (iEqualBytes x24.Data x25.Data) fun r26 => bif !r26 then (dn (some false)) else (some (.next (WR (v23 + 1))))) else (dn (Option.bind (iOutstandingBytes a0) fun r27 => Option.bind (iRemainingQuota a0.Usage) fun r28 => some (leB r27 r28)))
def iIsValidSession (a0 : TSession) : Option Bool :=
  Option.bind (iIsValidSubscriberRecord a0.Record) fun r1 => Option.bind (bif !r1 then (some true) else (Option.bind (iIsValidSubscription a0.Plan) fun r3 => bif !r3 then (some true) else (Option.bind (iIsValidPaging a0.Page) fun r4 => bif !r4 then (some true) else (Option.bind (iIsValidSender a0.Window) fun r5 => bif !r5 then (some true) else (Option.bind (iIsValidQuota a0.Usage) fun r6 => some (!r6)))))) fun (v2 : Bool) => bif v2 then (some false) else (Option.bind (bif !eqB a0.State 0 then (some (!eqB a0.State 1)) else (some false)) fun (v7 : Bool) => bif v7 then (some false) else (Option.bind (bif eqB a0.State 1 then (Option.bind (iIsValidKey a0.RootKey) fun r9 => bif !r9 then (some true) else (bif ltB 0 a0.PendingSeq then (Option.bind (iIsValidKey a0.Pending.Key) fun r10 => some (!r10)) else (some false))) else (bif ltB 0 a0.PendingSeq then (Option.bind (iIsValidKey a0.Pending.Key) fun r11 => some (!r11)) else (some false))) fun (v8 : Bool) => bif v8 then (some false) else (Option.bind (iInRange a0.PendingSeq 0 999999) fun r12 => Option.bind (bif !r12 then (some true) else (Option.bind (iInRange a0.Generation 0 999999) fun r14 => bif !r14 then (some true) else (Option.bind (iInRange a0.Epoch 0 999999) fun r15 => bif !r15 then (some true) else (Option.bind (iInRange a0.RootKey 0 2147483646) fun r16 => some (!r16))))) fun (v13 : Bool) => bif v13 then (some false) else (Option.bind (iInRange a0.Cell 0 5) fun r17 => Option.bind (bif !r17 then (some true) else (Option.bind (iInRange a0.Quiet 0 5) fun r19 => bif !r19 then (some true) else (Option.bind (iInRange a0.Retry 0 3) fun r20 => some (!r20)))) fun (v18 : Bool) => bif v18 then (some false) else (Option.bind (bif ltB 24 ((a0.Submitted.length : Nat) : Int) then (some true) else (Option.bind (ifitPayload a0.Submitted) fun r22 => bif !r22 then (some true) else (some (ltB (WR (((a0.Submitted.length : Nat) : Int) + 1)) a0.Window.Next)))) fun (v21 : Bool) => bif v21 then (some false) else (iter (iIsValidSession_L1 a0) FU 0))))))
theorem iIsValidSession_c {a0 : TSession} {r : Bool} (H : iIsValidSession a0 = some r) : Fn Tryz.prog 64 [.agg (eTSession a0)] [.c (.d (.b r))] := by
  refine fn_in Tryz.func64 rfl (by kernel_rfl) Tryz.ntmps64 rfl rfl rfl ?_
  refine wkd ?_
  obtain ⟨r1, hr1, H⟩ := ob H
  refine awr_n rfl (ca rfl rfl rfl (iIsValidSubscriberRecord_c hr1) trivial rfl rfl rfl rfl) ?_
  refine wkd ?_
  obtain ⟨v2, Hj, H⟩ := ob H
  refine awr_join ⟨[(1, .v (.c (.p 0 0))), (32, tB v2)], [(0, .var 65 [.d false (.i .i64 a0.Record.ID.Network), .d false (.i .i64 a0.Record.ID.Number), .d false (.i .i64 a0.Record.Key), .d false (.i .i64 a0.Record.Seq), .d false (.i .i64 a0.Plan.RateLimit), .d false (.i .i64 a0.Plan.BestClass), .d false (.i .i64 a0.Plan.GrantSize), .d false (.l (a0.Plan.RoamingNetworks.map eI)), .d false (.i .i64 a0.State), .d false (.i .i64 a0.Pending.Rand), .d false (.i .i64 a0.Pending.Autn), .d false (.i .i64 a0.Pending.MAC), .d false (.i .i64 a0.Pending.Res), .d false (.i .i64 a0.Pending.Key), .d false (.i .i64 a0.PendingSeq), .d false (.i .i64 a0.Generation), .d false (.i .i64 a0.RootKey), .d false (.i .i64 a0.Epoch), .d false (.i .i64 a0.Cell), .d false (.i .i64 a0.Quiet), .d false (.i .i64 a0.Page.Area), .d false (.i .i64 a0.Page.Attempt), .d false (.i .i64 a0.Page.Wait), .d false (.l (a0.Submitted.map eTPayload)), .d false (.i .i64 a0.Window.Next), .d false (.l (a0.Window.Unacked.map eTNumberedPacket)), .d false (.i .i64 a0.Retry), .d false (.i .i64 a0.Usage.SessionID), .d false (.i .i64 a0.Usage.Granted), .d false (.i .i64 a0.Usage.Used)])], 1⟩ ?_ ?_
  · have H := Hj
    refine wkd ?_
    refine g2 rfl rfl rfl (fun h => ?_) (fun h => ?_)
    · have H := bt h H
      refine wkd ?_
      cases H
      exact weak_of ⟨rfl, rfl, rfl, rfl, trivial⟩ ⟨rfl, ⟨rfl, rfl⟩, trivial⟩
    · have H := bf h H
      refine wkd ?_
      obtain ⟨r3, hr3, H⟩ := ob H
      refine awr_ng rfl rfl rfl rfl (ca rfl rfl rfl (iIsValidSubscription_c hr3) trivial rfl rfl rfl rfl) ?_
      refine wkd ?_
      refine g2 rfl rfl rfl (fun h => ?_) (fun h => ?_)
      · have H := bt h H
        refine wkd ?_
        cases H
        exact weak_of ⟨rfl, rfl, rfl, rfl, trivial⟩ ⟨rfl, ⟨rfl, rfl⟩, trivial⟩
      · have H := bf h H
        refine wkd ?_
        obtain ⟨r4, hr4, H⟩ := ob H
        refine awr_ng rfl rfl rfl rfl (ca rfl rfl rfl (iIsValidPaging_c hr4) trivial rfl rfl rfl rfl) ?_
        refine wkd ?_
        refine g2 rfl rfl rfl (fun h => ?_) (fun h => ?_)
        · have H := bt h H
          refine wkd ?_
          cases H
          exact weak_of ⟨rfl, rfl, rfl, rfl, trivial⟩ ⟨rfl, ⟨rfl, rfl⟩, trivial⟩
        · have H := bf h H
          refine wkd ?_
          obtain ⟨r5, hr5, H⟩ := ob H
          refine awr_ng rfl rfl rfl rfl (ca rfl rfl rfl (iIsValidSender_c hr5) trivial rfl rfl rfl rfl) ?_
          refine wkd ?_
          refine g2 rfl rfl rfl (fun h => ?_) (fun h => ?_)
          · have H := bt h H
            refine wkd ?_
            cases H
            exact weak_of ⟨rfl, rfl, rfl, rfl, trivial⟩ ⟨rfl, ⟨rfl, rfl⟩, trivial⟩
          · have H := bf h H
            refine wkd ?_
            obtain ⟨r6, hr6, H⟩ := ob H
            refine awr_ng rfl rfl rfl rfl (ca rfl rfl rfl (iIsValidQuota_c hr6) trivial rfl rfl rfl rfl) ?_
            refine wkd ?_
            cases H
            exact weak_of ⟨rfl, rfl, rfl, rfl, trivial⟩ ⟨rfl, ⟨rfl, rfl⟩, trivial⟩
  refine wkd ?_
  refine awc_cond rfl (fun h => ?_) (fun h => ?_)
  · have H := bt h H
    refine wkd ?_
    cases H
    exact fin_ret (.cons (.tmp rfl) .nil) rfl rfl rfl
  · have H := bf h H
    refine wkd ?_
    obtain ⟨v7, Hj, H⟩ := ob H
    refine awr_join ⟨[(1, .v (.c (.p 0 0))), (40, tB v7)], [(0, .var 65 [.d false (.i .i64 a0.Record.ID.Network), .d false (.i .i64 a0.Record.ID.Number), .d false (.i .i64 a0.Record.Key), .d false (.i .i64 a0.Record.Seq), .d false (.i .i64 a0.Plan.RateLimit), .d false (.i .i64 a0.Plan.BestClass), .d false (.i .i64 a0.Plan.GrantSize), .d false (.l (a0.Plan.RoamingNetworks.map eI)), .d false (.i .i64 a0.State), .d false (.i .i64 a0.Pending.Rand), .d false (.i .i64 a0.Pending.Autn), .d false (.i .i64 a0.Pending.MAC), .d false (.i .i64 a0.Pending.Res), .d false (.i .i64 a0.Pending.Key), .d false (.i .i64 a0.PendingSeq), .d false (.i .i64 a0.Generation), .d false (.i .i64 a0.RootKey), .d false (.i .i64 a0.Epoch), .d false (.i .i64 a0.Cell), .d false (.i .i64 a0.Quiet), .d false (.i .i64 a0.Page.Area), .d false (.i .i64 a0.Page.Attempt), .d false (.i .i64 a0.Page.Wait), .d false (.l (a0.Submitted.map eTPayload)), .d false (.i .i64 a0.Window.Next), .d false (.l (a0.Window.Unacked.map eTNumberedPacket)), .d false (.i .i64 a0.Retry), .d false (.i .i64 a0.Usage.SessionID), .d false (.i .i64 a0.Usage.Granted), .d false (.i .i64 a0.Usage.Used)])], 1⟩ ?_ ?_
    · have H := Hj
      refine wkd ?_
      refine g2 rfl rfl rfl (fun h => ?_) (fun h => ?_)
      · have H := bt h H
        refine wkd ?_
        cases H
        exact weak_of ⟨rfl, rfl, rfl, rfl, trivial⟩ ⟨rfl, ⟨rfl, rfl⟩, trivial⟩
      · have H := bf h H
        refine wkd ?_
        cases H
        exact weak_of ⟨rfl, rfl, rfl, rfl, trivial⟩ ⟨rfl, ⟨rfl, rfl⟩, trivial⟩
    refine wkd ?_
    refine awc_cond rfl (fun h => ?_) (fun h => ?_)
    · have H := bt h H
      refine wkd ?_
      cases H
      exact fin_ret (.cons (.tmp rfl) .nil) rfl rfl rfl
    · have H := bf h H
      refine wkd ?_
      obtain ⟨v8, Hj, H⟩ := ob H
      refine awr_join ⟨[(1, .v (.c (.p 0 0))), (61, tB v8)], [(0, .var 65 [.d false (.i .i64 a0.Record.ID.Network), .d false (.i .i64 a0.Record.ID.Number), .d false (.i .i64 a0.Record.Key), .d false (.i .i64 a0.Record.Seq), .d false (.i .i64 a0.Plan.RateLimit), .d false (.i .i64 a0.Plan.BestClass), .d false (.i .i64 a0.Plan.GrantSize), .d false (.l (a0.Plan.RoamingNetworks.map eI)), .d false (.i .i64 a0.State), .d false (.i .i64 a0.Pending.Rand), .d false (.i .i64 a0.Pending.Autn), .d false (.i .i64 a0.Pending.MAC), .d false (.i .i64 a0.Pending.Res), .d false (.i .i64 a0.Pending.Key), .d false (.i .i64 a0.PendingSeq), .d false (.i .i64 a0.Generation), .d false (.i .i64 a0.RootKey), .d false (.i .i64 a0.Epoch), .d false (.i .i64 a0.Cell), .d false (.i .i64 a0.Quiet), .d false (.i .i64 a0.Page.Area), .d false (.i .i64 a0.Page.Attempt), .d false (.i .i64 a0.Page.Wait), .d false (.l (a0.Submitted.map eTPayload)), .d false (.i .i64 a0.Window.Next), .d false (.l (a0.Window.Unacked.map eTNumberedPacket)), .d false (.i .i64 a0.Retry), .d false (.i .i64 a0.Usage.SessionID), .d false (.i .i64 a0.Usage.Granted), .d false (.i .i64 a0.Usage.Used)])], 1⟩ ?_ ?_
      · have H := Hj
        refine wkd ?_
        refine g2 rfl rfl rfl (fun h => ?_) (fun h => ?_)
        · have H := bt h H
          refine wkd ?_
          obtain ⟨r9, hr9, H⟩ := ob H
          refine awr_ng rfl rfl rfl rfl (ca rfl rfl rfl (iIsValidKey_c hr9) trivial rfl rfl rfl rfl) ?_
          refine wkd ?_
          refine g2 rfl rfl rfl (fun h => ?_) (fun h => ?_)
          · have H := bt h H
            refine wkd ?_
            cases H
            exact weak_of ⟨rfl, rfl, rfl, rfl, trivial⟩ ⟨rfl, ⟨rfl, rfl⟩, trivial⟩
          · have H := bf h H
            refine wkd ?_
            refine g2 rfl rfl rfl (fun h => ?_) (fun h => ?_)
            · have H := bt h H
              refine wkd ?_
              obtain ⟨r10, hr10, H⟩ := ob H
              refine awr_ng rfl rfl rfl rfl (ca rfl rfl rfl (iIsValidKey_c hr10) trivial rfl rfl rfl rfl) ?_
              refine wkd ?_
              cases H
              exact weak_of ⟨rfl, rfl, rfl, rfl, trivial⟩ ⟨rfl, ⟨rfl, rfl⟩, trivial⟩
            · have H := bf h H
              refine wkd ?_
              cases H
              exact weak_of ⟨rfl, rfl, rfl, rfl, trivial⟩ ⟨rfl, ⟨rfl, rfl⟩, trivial⟩
        · have H := bf h H
          refine wkd ?_
          refine g2 rfl rfl rfl (fun h => ?_) (fun h => ?_)
          · have H := bt h H
            refine wkd ?_
            obtain ⟨r11, hr11, H⟩ := ob H
            refine awr_ng rfl rfl rfl rfl (ca rfl rfl rfl (iIsValidKey_c hr11) trivial rfl rfl rfl rfl) ?_
            refine wkd ?_
            cases H
            exact weak_of ⟨rfl, rfl, rfl, rfl, trivial⟩ ⟨rfl, ⟨rfl, rfl⟩, trivial⟩
          · have H := bf h H
            refine wkd ?_
            cases H
            exact weak_of ⟨rfl, rfl, rfl, rfl, trivial⟩ ⟨rfl, ⟨rfl, rfl⟩, trivial⟩
      refine wkd ?_
      refine awc_cond rfl (fun h => ?_) (fun h => ?_)
      · have H := bt h H
        refine wkd ?_
        cases H
        exact fin_ret (.cons (.tmp rfl) .nil) rfl rfl rfl
      · have H := bf h H
        refine wkd ?_
        obtain ⟨r12, hr12, H⟩ := ob H
        refine awr_n rfl (ca rfl rfl rfl (iInRange_c hr12) trivial rfl rfl rfl rfl) ?_
        refine wkd ?_
        obtain ⟨v13, Hj, H⟩ := ob H
        refine awr_join ⟨[(1, .v (.c (.p 0 0))), (83, tB v13)], [(0, .var 65 [.d false (.i .i64 a0.Record.ID.Network), .d false (.i .i64 a0.Record.ID.Number), .d false (.i .i64 a0.Record.Key), .d false (.i .i64 a0.Record.Seq), .d false (.i .i64 a0.Plan.RateLimit), .d false (.i .i64 a0.Plan.BestClass), .d false (.i .i64 a0.Plan.GrantSize), .d false (.l (a0.Plan.RoamingNetworks.map eI)), .d false (.i .i64 a0.State), .d false (.i .i64 a0.Pending.Rand), .d false (.i .i64 a0.Pending.Autn), .d false (.i .i64 a0.Pending.MAC), .d false (.i .i64 a0.Pending.Res), .d false (.i .i64 a0.Pending.Key), .d false (.i .i64 a0.PendingSeq), .d false (.i .i64 a0.Generation), .d false (.i .i64 a0.RootKey), .d false (.i .i64 a0.Epoch), .d false (.i .i64 a0.Cell), .d false (.i .i64 a0.Quiet), .d false (.i .i64 a0.Page.Area), .d false (.i .i64 a0.Page.Attempt), .d false (.i .i64 a0.Page.Wait), .d false (.l (a0.Submitted.map eTPayload)), .d false (.i .i64 a0.Window.Next), .d false (.l (a0.Window.Unacked.map eTNumberedPacket)), .d false (.i .i64 a0.Retry), .d false (.i .i64 a0.Usage.SessionID), .d false (.i .i64 a0.Usage.Granted), .d false (.i .i64 a0.Usage.Used)])], 1⟩ ?_ ?_
        · have H := Hj
          refine wkd ?_
          refine g2 rfl rfl rfl (fun h => ?_) (fun h => ?_)
          · have H := bt h H
            refine wkd ?_
            cases H
            exact weak_of ⟨rfl, rfl, rfl, rfl, trivial⟩ ⟨rfl, ⟨rfl, rfl⟩, trivial⟩
          · have H := bf h H
            refine wkd ?_
            obtain ⟨r14, hr14, H⟩ := ob H
            refine awr_ng rfl rfl rfl rfl (ca rfl rfl rfl (iInRange_c hr14) trivial rfl rfl rfl rfl) ?_
            refine wkd ?_
            refine g2 rfl rfl rfl (fun h => ?_) (fun h => ?_)
            · have H := bt h H
              refine wkd ?_
              cases H
              exact weak_of ⟨rfl, rfl, rfl, rfl, trivial⟩ ⟨rfl, ⟨rfl, rfl⟩, trivial⟩
            · have H := bf h H
              refine wkd ?_
              obtain ⟨r15, hr15, H⟩ := ob H
              refine awr_ng rfl rfl rfl rfl (ca rfl rfl rfl (iInRange_c hr15) trivial rfl rfl rfl rfl) ?_
              refine wkd ?_
              refine g2 rfl rfl rfl (fun h => ?_) (fun h => ?_)
              · have H := bt h H
                refine wkd ?_
                cases H
                exact weak_of ⟨rfl, rfl, rfl, rfl, trivial⟩ ⟨rfl, ⟨rfl, rfl⟩, trivial⟩
              · have H := bf h H
                refine wkd ?_
                obtain ⟨r16, hr16, H⟩ := ob H
                refine awr_ng rfl rfl rfl rfl (ca rfl rfl rfl (iInRange_c hr16) trivial rfl rfl rfl rfl) ?_
                refine wkd ?_
                cases H
                exact weak_of ⟨rfl, rfl, rfl, rfl, trivial⟩ ⟨rfl, ⟨rfl, rfl⟩, trivial⟩
        refine wkd ?_
        refine awc_cond rfl (fun h => ?_) (fun h => ?_)
        · have H := bt h H
          refine wkd ?_
          cases H
          exact fin_ret (.cons (.tmp rfl) .nil) rfl rfl rfl
        · have H := bf h H
          refine wkd ?_
          obtain ⟨r17, hr17, H⟩ := ob H
          refine awr_n rfl (ca rfl rfl rfl (iInRange_c hr17) trivial rfl rfl rfl rfl) ?_
          refine wkd ?_
          obtain ⟨v18, Hj, H⟩ := ob H
          refine awr_join ⟨[(1, .v (.c (.p 0 0))), (99, tB v18)], [(0, .var 65 [.d false (.i .i64 a0.Record.ID.Network), .d false (.i .i64 a0.Record.ID.Number), .d false (.i .i64 a0.Record.Key), .d false (.i .i64 a0.Record.Seq), .d false (.i .i64 a0.Plan.RateLimit), .d false (.i .i64 a0.Plan.BestClass), .d false (.i .i64 a0.Plan.GrantSize), .d false (.l (a0.Plan.RoamingNetworks.map eI)), .d false (.i .i64 a0.State), .d false (.i .i64 a0.Pending.Rand), .d false (.i .i64 a0.Pending.Autn), .d false (.i .i64 a0.Pending.MAC), .d false (.i .i64 a0.Pending.Res), .d false (.i .i64 a0.Pending.Key), .d false (.i .i64 a0.PendingSeq), .d false (.i .i64 a0.Generation), .d false (.i .i64 a0.RootKey), .d false (.i .i64 a0.Epoch), .d false (.i .i64 a0.Cell), .d false (.i .i64 a0.Quiet), .d false (.i .i64 a0.Page.Area), .d false (.i .i64 a0.Page.Attempt), .d false (.i .i64 a0.Page.Wait), .d false (.l (a0.Submitted.map eTPayload)), .d false (.i .i64 a0.Window.Next), .d false (.l (a0.Window.Unacked.map eTNumberedPacket)), .d false (.i .i64 a0.Retry), .d false (.i .i64 a0.Usage.SessionID), .d false (.i .i64 a0.Usage.Granted), .d false (.i .i64 a0.Usage.Used)])], 1⟩ ?_ ?_
          · have H := Hj
            refine wkd ?_
            refine g2 rfl rfl rfl (fun h => ?_) (fun h => ?_)
            · have H := bt h H
              refine wkd ?_
              cases H
              exact weak_of ⟨rfl, rfl, rfl, rfl, trivial⟩ ⟨rfl, ⟨rfl, rfl⟩, trivial⟩
            · have H := bf h H
              refine wkd ?_
              obtain ⟨r19, hr19, H⟩ := ob H
              refine awr_ng rfl rfl rfl rfl (ca rfl rfl rfl (iInRange_c hr19) trivial rfl rfl rfl rfl) ?_
              refine wkd ?_
              refine g2 rfl rfl rfl (fun h => ?_) (fun h => ?_)
              · have H := bt h H
                refine wkd ?_
                cases H
                exact weak_of ⟨rfl, rfl, rfl, rfl, trivial⟩ ⟨rfl, ⟨rfl, rfl⟩, trivial⟩
              · have H := bf h H
                refine wkd ?_
                obtain ⟨r20, hr20, H⟩ := ob H
                refine awr_ng rfl rfl rfl rfl (ca rfl rfl rfl (iInRange_c hr20) trivial rfl rfl rfl rfl) ?_
                refine wkd ?_
                cases H
                exact weak_of ⟨rfl, rfl, rfl, rfl, trivial⟩ ⟨rfl, ⟨rfl, rfl⟩, trivial⟩
          refine wkd ?_
          refine awc_cond rfl (fun h => ?_) (fun h => ?_)
          · have H := bt h H
            refine wkd ?_
            cases H
            exact fin_ret (.cons (.tmp rfl) .nil) rfl rfl rfl
          · have H := bf h H
            refine wkd ?_
            obtain ⟨v21, Hj, H⟩ := ob H
            refine awr_join ⟨[(1, .v (.c (.p 0 0))), (119, tB v21)], [(0, .var 65 [.d false (.i .i64 a0.Record.ID.Network), .d false (.i .i64 a0.Record.ID.Number), .d false (.i .i64 a0.Record.Key), .d false (.i .i64 a0.Record.Seq), .d false (.i .i64 a0.Plan.RateLimit), .d false (.i .i64 a0.Plan.BestClass), .d false (.i .i64 a0.Plan.GrantSize), .d false (.l (a0.Plan.RoamingNetworks.map eI)), .d false (.i .i64 a0.State), .d false (.i .i64 a0.Pending.Rand), .d false (.i .i64 a0.Pending.Autn), .d false (.i .i64 a0.Pending.MAC), .d false (.i .i64 a0.Pending.Res), .d false (.i .i64 a0.Pending.Key), .d false (.i .i64 a0.PendingSeq), .d false (.i .i64 a0.Generation), .d false (.i .i64 a0.RootKey), .d false (.i .i64 a0.Epoch), .d false (.i .i64 a0.Cell), .d false (.i .i64 a0.Quiet), .d false (.i .i64 a0.Page.Area), .d false (.i .i64 a0.Page.Attempt), .d false (.i .i64 a0.Page.Wait), .d false (.l (a0.Submitted.map eTPayload)), .d false (.i .i64 a0.Window.Next), .d false (.l (a0.Window.Unacked.map eTNumberedPacket)), .d false (.i .i64 a0.Retry), .d false (.i .i64 a0.Usage.SessionID), .d false (.i .i64 a0.Usage.Granted), .d false (.i .i64 a0.Usage.Used)])], 1⟩ ?_ ?_
            · have H := Hj
              refine wkd ?_
              refine g2 rfl rfl rfl (fun h => ?_) (fun h => ?_)
              · have H := bt h H
                refine wkd ?_
                cases H
                exact weak_of ⟨rfl, rfl, rfl, rfl, trivial⟩ ⟨rfl, ⟨rfl, rfl⟩, trivial⟩
              · have H := bf h H
                refine wkd ?_
                obtain ⟨r22, hr22, H⟩ := ob H
                refine awr_ng rfl rfl rfl rfl (ca rfl rfl rfl (ifitPayload_c hr22) trivial rfl rfl rfl rfl) ?_
                refine wkd ?_
                refine g2 rfl rfl rfl (fun h => ?_) (fun h => ?_)
                · have H := bt h H
                  refine wkd ?_
                  cases H
                  exact weak_of ⟨rfl, rfl, rfl, rfl, trivial⟩ ⟨rfl, ⟨rfl, rfl⟩, trivial⟩
                · have H := bf h H
                  refine wkd ?_
                  cases H
                  exact weak_of ⟨rfl, rfl, rfl, rfl, trivial⟩ ⟨rfl, ⟨rfl, rfl⟩, trivial⟩
            refine wkd ?_
            refine awc_cond rfl (fun h => ?_) (fun h => ?_)
            · have H := bt h H
              refine wkd ?_
              cases H
              exact fin_ret (.cons (.tmp rfl) .nil) rfl rfl rfl
            · have H := bf h H
              refine wkd ?_
              refine awc_iter (fun (q : Int) => ⟨[(1, .v (.c (.p 0 0))), (122, .v (.c (.d false (.l (a0.Window.Unacked.map eTNumberedPacket))))), (123, tI ((a0.Window.Unacked.length : Nat) : Int)), (124, tI q)], [(0, .var 65 [.d false (.i .i64 a0.Record.ID.Network), .d false (.i .i64 a0.Record.ID.Number), .d false (.i .i64 a0.Record.Key), .d false (.i .i64 a0.Record.Seq), .d false (.i .i64 a0.Plan.RateLimit), .d false (.i .i64 a0.Plan.BestClass), .d false (.i .i64 a0.Plan.GrantSize), .d false (.l (a0.Plan.RoamingNetworks.map eI)), .d false (.i .i64 a0.State), .d false (.i .i64 a0.Pending.Rand), .d false (.i .i64 a0.Pending.Autn), .d false (.i .i64 a0.Pending.MAC), .d false (.i .i64 a0.Pending.Res), .d false (.i .i64 a0.Pending.Key), .d false (.i .i64 a0.PendingSeq), .d false (.i .i64 a0.Generation), .d false (.i .i64 a0.RootKey), .d false (.i .i64 a0.Epoch), .d false (.i .i64 a0.Cell), .d false (.i .i64 a0.Quiet), .d false (.i .i64 a0.Page.Area), .d false (.i .i64 a0.Page.Attempt), .d false (.i .i64 a0.Page.Wait), .d false (.l (a0.Submitted.map eTPayload)), .d false (.i .i64 a0.Window.Next), .d false (.l (a0.Window.Unacked.map eTNumberedPacket)), .d false (.i .i64 a0.Retry), .d false (.i .i64 a0.Usage.SessionID), .d false (.i .i64 a0.Usage.Granted), .d false (.i .i64 a0.Usage.Used)])], 1⟩) H (weak_of ⟨rfl, rfl, rfl, rfl, rfl, rfl, rfl, rfl, trivial⟩ ⟨rfl, ⟨rfl, rfl⟩, trivial⟩) ?_
              rintro v23 o H
              try dsimp only
              refine wkd ?_
              refine awc_cond rfl (fun h => ?_) (fun h => ?_)
              · have H := bt h H
                refine wkd ?_
                obtain ⟨x24, hx24, H⟩ := ob H
                refine awr_n rfl (xdT (enc := eTNumberedPacket) hx24 (fun _ => rfl) rfl rfl rfl) ?_
                refine wkd ?_
                obtain ⟨x25, hx25, H⟩ := ob H
                refine dr_n rfl (xdT (enc := eTPayload) hx25 (fun _ => rfl) rfl rfl rfl) ?_
                refine wkd ?_
                obtain ⟨r26, hr26, H⟩ := ob H
                refine dr_n rfl (ca rfl rfl rfl (iEqualBytes_c hr26) trivial rfl rfl rfl rfl) ?_
                refine wkd ?_
                refine awc_cond rfl (fun h => ?_) (fun h => ?_)
                · have H := bt h H
                  refine wkd ?_
                  obtain ⟨r0, Hd, rfl⟩ := dnE H
                  refine iq_r (fun hq => ?_)
                  have H := Hd.trans (congrArg some hq)
                  refine wkd ?_
                  cases H
                  exact fin_ret (.cons (.tmp rfl) .nil) rfl rfl rfl
                · have H := bf h H
                  refine wkd ?_
                  cases H
                  refine iq_n ?_
                  exact weak_of ⟨rfl, rfl, rfl, rfl, rfl, rfl, rfl, rfl, trivial⟩ ⟨rfl, ⟨rfl, rfl⟩, trivial⟩
              · have H := bf h H
                refine wkd ?_
                obtain ⟨r0, Hd, rfl⟩ := dnE H
                refine iq_e (fun hq => ?_)
                have H := Hd.trans (congrArg some hq)
                refine wkd ?_
                obtain ⟨r27, hr27, H⟩ := ob H
                refine dr_n rfl (ca rfl rfl rfl (iOutstandingBytes_c hr27) trivial rfl rfl rfl rfl) ?_
                refine wkd ?_
                obtain ⟨r28, hr28, H⟩ := ob H
                refine dr_n rfl (ca rfl rfl rfl (iRemainingQuota_c hr28) trivial rfl rfl rfl rfl) ?_
                refine wkd ?_
                cases H
                exact fin_ret (.cons (.tmp rfl) .nil) rfl rfl rfl
def iTotalReserved_L1 (a0 : TAccount) : (Int × Int) → Option (Step (Int × Int) (Int))
  | (v1, v2) => bif ltB v2 ((a0.Reservations.length : Nat) : Int) then (Option.bind (ix a0.Reservations v2) fun x5 => some (.next (WR (v1 + x5.Amount), WR (v2 + 1)))) else (some (.done v1))
def iTotalReserved (a0 : TAccount) : Option Int :=
  Option.bind (iter (iTotalReserved_L1 a0) FU (0, 0)) fun (v4 : Int) => some v4
theorem iTotalReserved_c {a0 : TAccount} {r : Int} (H : iTotalReserved a0 = some r) : Fn Tryz.prog 95 [.agg (eTAccount a0)] [.c (.d (.i .i64 r))] := by
  refine fn_in Tryz.func95 rfl (by kernel_rfl) Tryz.ntmps95 rfl rfl rfl ?_
  refine wk ?_
  obtain ⟨v4, Hj, H⟩ := ob H
  refine awc_jblk ⟨[(3, tI v4)], [], 0⟩ ?_ ?_
  · refine wk ?_
    refine awc_iter (fun (q : Int × Int) => ⟨[(3, tI q.1), (7, .v (.c (.d false (.l (a0.Reservations.map eTReservation))))), (8, tI ((a0.Reservations.length : Nat) : Int)), (9, tI q.2)], [], 0⟩) Hj (weak_of ⟨rfl, rfl, rfl, rfl, rfl, rfl, rfl, rfl, trivial⟩ trivial) ?_
    rintro ⟨v1, v2⟩ o H
    try dsimp only
    refine wk ?_
    refine awc_cond rfl (fun h => ?_) (fun h => ?_)
    · have H := bt h H
      refine wk ?_
      obtain ⟨x5, hx5, H⟩ := ob H
      refine awr_n rfl (xdT (enc := eTReservation) hx5 (fun _ => rfl) rfl rfl rfl) ?_
      refine wk ?_
      cases H
      refine iq_n ?_
      exact weak_of ⟨rfl, rfl, rfl, rfl, rfl, rfl, rfl, rfl, trivial⟩ trivial
    · have H := bf h H
      refine wk ?_
      cases H
      refine iq_e (fun hq => ?_)
      cases hq
      refine wk ?_
      exact weak_of ⟨rfl, rfl, trivial⟩ trivial
  refine wk ?_
  cases H
  exact fin_ret (.cons (.tmp rfl) .nil) rfl rfl rfl
def iIsValidAccount_L1 (a0 : TAccount) : Int → Option (Step (Int) (Bool))
  | v5 => bif ltB v5 ((a0.Reservations.length : Nat) : Int) then (Option.bind (ix a0.Reservations v5) fun x6 => Option.bind (bif ltB x6.SessionID 0 then (some true) else (Option.bind (iInRange x6.Amount 1 100000) fun r8 => some (!r8))) fun (v7 : Bool) => bif v7 then (dn (some false)) else (Option.bind (bif ltB 0 v5 then (Option.bind (ix a0.Reservations (WR (v5 - 1))) fun x10 => some (leB x6.SessionID x10.SessionID)) else (some false)) fun (v9 : Bool) => bif v9 then (dn (some false)) else (some (.next (WR (v5 + 1)))))) else (dn (Option.bind (iTotalReserved a0) fun r11 => some (eqB (WR ((WR (a0.Available + a0.Spent)) + r11)) a0.Total)))
def iIsValidAccount (a0 : TAccount) : Option Bool :=
  Option.bind (iInRange a0.Total 0 100000) fun r1 => Option.bind (bif !r1 then (some true) else (Option.bind (iInRange a0.Available 0 a0.Total) fun r3 => bif !r3 then (some true) else (Option.bind (iInRange a0.Spent 0 a0.Total) fun r4 => some (!r4)))) fun (v2 : Bool) => bif v2 then (some false) else (bif ltB 8 ((a0.Reservations.length : Nat) : Int) then (some false) else (iter (iIsValidAccount_L1 a0) FU 0))
theorem iIsValidAccount_c {a0 : TAccount} {r : Bool} (H : iIsValidAccount a0 = some r) : Fn Tryz.prog 65 [.agg (eTAccount a0)] [.c (.d (.b r))] := by
  refine fn_in Tryz.func65 rfl (by kernel_rfl) Tryz.ntmps65 rfl rfl rfl ?_
  refine wkd ?_
  obtain ⟨r1, hr1, H⟩ := ob H
  refine awr_n rfl (ca rfl rfl rfl (iInRange_c hr1) trivial rfl rfl rfl rfl) ?_
  refine wkd ?_
  obtain ⟨v2, Hj, H⟩ := ob H
  refine awr_join ⟨[(1, .v (.c (.p 0 0))), (24, tB v2)], [(0, .var 68 [.d false (.i .i64 a0.Total), .d false (.i .i64 a0.Available), .d false (.i .i64 a0.Spent), .d false (.l (a0.Reservations.map eTReservation))])], 1⟩ ?_ ?_
  · have H := Hj
    refine wkd ?_
    refine g2 rfl rfl rfl (fun h => ?_) (fun h => ?_)
    · have H := bt h H
      refine wkd ?_
      cases H
      exact weak_of ⟨rfl, rfl, rfl, rfl, trivial⟩ ⟨rfl, ⟨rfl, rfl⟩, trivial⟩
    · have H := bf h H
      refine wkd ?_
      obtain ⟨r3, hr3, H⟩ := ob H
      refine awr_ng rfl rfl rfl rfl (ca rfl rfl rfl (iInRange_c hr3) trivial rfl rfl rfl rfl) ?_
      refine wkd ?_
      refine g2 rfl rfl rfl (fun h => ?_) (fun h => ?_)
      · have H := bt h H
        refine wkd ?_
        cases H
        exact weak_of ⟨rfl, rfl, rfl, rfl, trivial⟩ ⟨rfl, ⟨rfl, rfl⟩, trivial⟩
      · have H := bf h H
        refine wkd ?_
        obtain ⟨r4, hr4, H⟩ := ob H
        refine awr_ng rfl rfl rfl rfl (ca rfl rfl rfl (iInRange_c hr4) trivial rfl rfl rfl rfl) ?_
        refine wkd ?_
        cases H
        exact weak_of ⟨rfl, rfl, rfl, rfl, trivial⟩ ⟨rfl, ⟨rfl, rfl⟩, trivial⟩
  refine wkd ?_
  refine awc_cond rfl (fun h => ?_) (fun h => ?_)
  · have H := bt h H
    refine wkd ?_
    cases H
    exact fin_ret (.cons (.tmp rfl) .nil) rfl rfl rfl
  · have H := bf h H
    refine wkd ?_
    refine awc_cond rfl (fun h => ?_) (fun h => ?_)
    · have H := bt h H
      refine wkd ?_
      cases H
      exact fin_ret (.cons (.tmp rfl) .nil) rfl rfl rfl
    · have H := bf h H
      refine wkd ?_
      refine awc_iter (fun (q : Int) => ⟨[(1, .v (.c (.p 0 0))), (30, .v (.c (.d false (.l (a0.Reservations.map eTReservation))))), (31, tI ((a0.Reservations.length : Nat) : Int)), (32, tI q)], [(0, .var 68 [.d false (.i .i64 a0.Total), .d false (.i .i64 a0.Available), .d false (.i .i64 a0.Spent), .d false (.l (a0.Reservations.map eTReservation))])], 1⟩) H (weak_of ⟨rfl, rfl, rfl, rfl, rfl, rfl, rfl, rfl, trivial⟩ ⟨rfl, ⟨rfl, rfl⟩, trivial⟩) ?_
      rintro v5 o H
      try dsimp only
      refine wkd ?_
      refine awc_cond rfl (fun h => ?_) (fun h => ?_)
      · have H := bt h H
        refine wkd ?_
        obtain ⟨x6, hx6, H⟩ := ob H
        refine awr_n rfl (xdT (enc := eTReservation) hx6 (fun _ => rfl) rfl rfl rfl) ?_
        refine wkd ?_
        obtain ⟨v7, Hj, H⟩ := ob H
        refine awr_join ⟨[(1, .v (.c (.p 0 0))), (3, tI v5), (4, .v (.c (.p 1 0))), (30, .v (.c (.d false (.l (a0.Reservations.map eTReservation))))), (31, tI ((a0.Reservations.length : Nat) : Int)), (32, tI v5), (45, tB v7)], [(0, .var 68 [.d false (.i .i64 a0.Total), .d false (.i .i64 a0.Available), .d false (.i .i64 a0.Spent), .d false (.l (a0.Reservations.map eTReservation))]), (1, .var 128 [.d false (.i .i64 x6.SessionID), .d false (.i .i64 x6.Amount)])], 2⟩ ?_ ?_
        · have H := Hj
          refine wkd ?_
          refine g2 rfl rfl rfl (fun h => ?_) (fun h => ?_)
          · have H := bt h H
            refine wkd ?_
            cases H
            exact weak_of ⟨rfl, rfl, rfl, rfl, rfl, rfl, rfl, rfl, rfl, rfl, rfl, rfl, rfl, rfl, trivial⟩ ⟨rfl, ⟨rfl, rfl⟩, rfl, ⟨rfl, rfl⟩, trivial⟩
          · have H := bf h H
            refine wkd ?_
            obtain ⟨r8, hr8, H⟩ := ob H
            refine awr_ng rfl rfl rfl rfl (ca rfl rfl rfl (iInRange_c hr8) trivial rfl rfl rfl rfl) ?_
            refine wkd ?_
            cases H
            exact weak_of ⟨rfl, rfl, rfl, rfl, rfl, rfl, rfl, rfl, rfl, rfl, rfl, rfl, rfl, rfl, trivial⟩ ⟨rfl, ⟨rfl, rfl⟩, rfl, ⟨rfl, rfl⟩, trivial⟩
        refine wkd ?_
        refine awc_cond rfl (fun h => ?_) (fun h => ?_)
        · have H := bt h H
          refine wkd ?_
          obtain ⟨r0, Hd, rfl⟩ := dnE H
          refine iq_r (fun hq => ?_)
          have H := Hd.trans (congrArg some hq)
          refine wkd ?_
          cases H
          exact fin_ret (.cons (.tmp rfl) .nil) rfl rfl rfl
        · have H := bf h H
          refine wkd ?_
          obtain ⟨v9, Hj, H⟩ := ob H
          refine dr_join ⟨[(1, .v (.c (.p 0 0))), (30, .v (.c (.d false (.l (a0.Reservations.map eTReservation))))), (31, tI ((a0.Reservations.length : Nat) : Int)), (32, tI v5), (59, tB v9)], [(0, .var 68 [.d false (.i .i64 a0.Total), .d false (.i .i64 a0.Available), .d false (.i .i64 a0.Spent), .d false (.l (a0.Reservations.map eTReservation))])], 1⟩ ?_ ?_
          · have H := Hj
            refine wkd ?_
            refine dg2 rfl rfl rfl (fun h => ?_) (fun h => ?_)
            · have H := bt h H
              refine wkd ?_
              obtain ⟨x10, hx10, H⟩ := ob H
              refine dr_ng rfl rfl rfl rfl (xdT (enc := eTReservation) hx10 (fun _ => rfl) rfl rfl rfl) ?_
              refine wkd ?_
              cases H
              exact weak_of ⟨rfl, rfl, rfl, rfl, rfl, rfl, rfl, rfl, rfl, rfl, trivial⟩ ⟨rfl, ⟨rfl, rfl⟩, trivial⟩
            · have H := bf h H
              refine wkd ?_
              cases H
              exact weak_of ⟨rfl, rfl, rfl, rfl, rfl, rfl, rfl, rfl, rfl, rfl, trivial⟩ ⟨rfl, ⟨rfl, rfl⟩, trivial⟩
          refine wkd ?_
          refine awc_cond rfl (fun h => ?_) (fun h => ?_)
          · have H := bt h H
            refine wkd ?_
            obtain ⟨r0, Hd, rfl⟩ := dnE H
            refine iq_r (fun hq => ?_)
            have H := Hd.trans (congrArg some hq)
            refine wkd ?_
            cases H
            exact fin_ret (.cons (.tmp rfl) .nil) rfl rfl rfl
          · have H := bf h H
            refine wkd ?_
            cases H
            refine iq_n ?_
            exact weak_of ⟨rfl, rfl, rfl, rfl, rfl, rfl, rfl, rfl, trivial⟩ ⟨rfl, ⟨rfl, rfl⟩, trivial⟩
      · have H := bf h H
        refine wkd ?_
        obtain ⟨r0, Hd, rfl⟩ := dnE H
        refine iq_e (fun hq => ?_)
        have H := Hd.trans (congrArg some hq)
        refine wkd ?_
        obtain ⟨r11, hr11, H⟩ := ob H
        refine dr_n rfl (ca rfl rfl rfl (iTotalReserved_c hr11) trivial rfl rfl rfl rfl) ?_
        refine wkd ?_
        cases H
        exact fin_ret (.cons (.tmp rfl) .nil) rfl rfl rfl
def ireservationIndex_L1 (a0 : TAccount) (a1 : Int) : Int → Option (Step (Int) (Int))
  | v1 => bif ltB v1 ((a0.Reservations.length : Nat) : Int) then (Option.bind (ix a0.Reservations v1) fun x2 => bif eqB x2.SessionID a1 then (dn (some v1)) else (some (.next (WR (v1 + 1))))) else (dn (some (-1)))
def ireservationIndex (a0 : TAccount) (a1 : Int) : Option Int :=
  iter (ireservationIndex_L1 a0 a1) FU 0
theorem ireservationIndex_c {a0 : TAccount} {a1 : Int} {r : Int} (H : ireservationIndex a0 a1 = some r) : Fn Tryz.prog 107 [.agg (eTAccount a0), aI a1] [.c (.d (.i .i64 r))] := by
  refine fn_in Tryz.func107 rfl (by kernel_rfl) Tryz.ntmps107 rfl rfl rfl ?_
  refine wk ?_
  refine awc_iter (fun (q : Int) => ⟨[(1, tI a1), (8, .v (.c (.d false (.l (a0.Reservations.map eTReservation))))), (9, tI ((a0.Reservations.length : Nat) : Int)), (10, tI q)], [], 0⟩) H (weak_of ⟨rfl, rfl, rfl, rfl, rfl, rfl, rfl, rfl, trivial⟩ trivial) ?_
  rintro v1 o H
  try dsimp only
  refine wk ?_
  refine awc_cond rfl (fun h => ?_) (fun h => ?_)
  · have H := bt h H
    refine wk ?_
    obtain ⟨x2, hx2, H⟩ := ob H
    refine awr_n rfl (xdT (enc := eTReservation) hx2 (fun _ => rfl) rfl rfl rfl) ?_
    refine wk ?_
    refine awc_cond rfl (fun h => ?_) (fun h => ?_)
    · have H := bt h H
      refine wk ?_
      obtain ⟨r0, Hd, rfl⟩ := dnE H
      refine iq_r (fun hq => ?_)
      have H := Hd.trans (congrArg some hq)
      refine wk ?_
      cases H
      exact fin_ret (.cons (.tmp rfl) .nil) rfl rfl rfl
    · have H := bf h H
      refine wk ?_
      cases H
      refine iq_n ?_
      exact weak_of ⟨rfl, rfl, rfl, rfl, rfl, rfl, rfl, rfl, trivial⟩ trivial
  · have H := bf h H
    refine wk ?_
    obtain ⟨r0, Hd, rfl⟩ := dnE H
    refine iq_e (fun hq => ?_)
    have H := Hd.trans (congrArg some hq)
    refine wk ?_
    cases H
    exact fin_ret (.cons (.tmp rfl) .nil) rfl rfl rfl
def iReservedFor (a0 : TAccount) (a1 : Int) : Option Int :=
  Option.bind (ireservationIndex a0 a1) fun r1 => bif ltB r1 0 then (some 0) else (Option.bind (ix a0.Reservations r1) fun x2 => some x2.Amount)
theorem iReservedFor_c {a0 : TAccount} {a1 : Int} {r : Int} (H : iReservedFor a0 a1 = some r) : Fn Tryz.prog 96 [.agg (eTAccount a0), aI a1] [.c (.d (.i .i64 r))] := by
  refine fn_in Tryz.func96 rfl (by kernel_rfl) Tryz.ntmps96 rfl rfl rfl ?_
  refine wk ?_
  obtain ⟨r1, hr1, H⟩ := ob H
  refine awr_n rfl (ca rfl rfl rfl (ireservationIndex_c hr1) trivial rfl rfl rfl rfl) ?_
  refine wk ?_
  refine awc_cond rfl (fun h => ?_) (fun h => ?_)
  · have H := bt h H
    refine wk ?_
    cases H
    exact fin_ret (.cons (.tmp rfl) .nil) rfl rfl rfl
  · have H := bf h H
    refine wk ?_
    obtain ⟨x2, hx2, H⟩ := ob H
    refine awr_n rfl (xdT (enc := eTReservation) hx2 (fun _ => rfl) rfl rfl rfl) ?_
    refine wk ?_
    cases H
    exact fin_ret (.cons (.tmp rfl) .nil) rfl rfl rfl
def iQuotaMatchesAccount (a0 : TAccount) (a1 : TQuota) : Option Bool :=
  Option.bind (iIsValidAccount a0) fun r1 => Option.bind (bif r1 then (Option.bind (iIsValidQuota a1) fun r3 => bif r3 then (Option.bind (iReservedFor a0 a1.SessionID) fun r4 => some (eqB r4 a1.Granted)) else (some false)) else (some false)) fun (v2 : Bool) => some v2
theorem iQuotaMatchesAccount_c {a0 : TAccount} {a1 : TQuota} {r : Bool} (H : iQuotaMatchesAccount a0 a1 = some r) : Fn Tryz.prog 66 [.agg (eTAccount a0), .agg (eTQuota a1)] [.c (.d (.b r))] := by
  refine fn_in Tryz.func66 rfl (by kernel_rfl) Tryz.ntmps66 rfl rfl rfl ?_
  refine wkd ?_
  obtain ⟨r1, hr1, H⟩ := ob H
  refine dr_n rfl (ca rfl rfl rfl (iIsValidAccount_c hr1) trivial rfl rfl rfl rfl) ?_
  refine wkd ?_
  obtain ⟨v2, Hj, H⟩ := ob H
  refine dr_join ⟨[(4, tB v2)], [], 0⟩ ?_ ?_
  · have H := Hj
    refine wkd ?_
    refine dg2 rfl rfl rfl (fun h => ?_) (fun h => ?_)
    · have H := bt h H
      refine wkd ?_
      obtain ⟨r3, hr3, H⟩ := ob H
      refine dr_ng rfl rfl rfl rfl (ca rfl rfl rfl (iIsValidQuota_c hr3) trivial rfl rfl rfl rfl) ?_
      refine wkd ?_
      refine dg2 rfl rfl rfl (fun h => ?_) (fun h => ?_)
      · have H := bt h H
        refine wkd ?_
        obtain ⟨r4, hr4, H⟩ := ob H
        refine dr_ng rfl rfl rfl rfl (ca rfl rfl rfl (iReservedFor_c hr4) trivial rfl rfl rfl rfl) ?_
        refine wkd ?_
        cases H
        exact weak_of ⟨rfl, rfl, trivial⟩ trivial
      · have H := bf h H
        refine wkd ?_
        cases H
        exact weak_of ⟨rfl, rfl, trivial⟩ trivial
    · have H := bf h H
      refine wkd ?_
      cases H
      exact weak_of ⟨rfl, rfl, trivial⟩ trivial
  refine wkd ?_
  cases H
  exact fin_ret (.cons (.tmp rfl) .nil) rfl rfl rfl
def iisValidSubscriber (a0 : TNetwork) (a1 : Int) : Option Bool :=
  Option.bind (ix a0.Devices a1) fun x1 => Option.bind (ix a0.Sessions a1) fun x2 => Option.bind (iIsValidDevice x1) fun r3 => Option.bind (bif r3 then (Option.bind (iIsValidSession x2) fun r5 => bif r5 then (Option.bind (ix a0.Accounts a1) fun x6 => Option.bind (iIsValidAccount x6) fun r7 => bif r7 then (bif (eqB x1.Card.ID.Network x2.Record.ID.Network && (eqB x1.Card.ID.Number x2.Record.ID.Number && true)) then (bif eqB x1.Card.Key x2.Record.Key then (Option.bind (iisCell a0.Map x1.Cell) fun r8 => bif r8 then (Option.bind (iisCell a0.Map x2.Cell) fun r9 => bif r9 then (bif eqB x2.Usage.SessionID a1 then (Option.bind (ix a0.Accounts a1) fun x10 => Option.bind (iQuotaMatchesAccount x10 x2.Usage) fun r11 => some r11) else (some false)) else (some false)) else (some false)) else (some false)) else (some false)) else (some false)) else (some false)) else (some false)) fun (v4 : Bool) => some v4
theorem iisValidSubscriber_c {a0 : TNetwork} {a1 : Int} {r : Bool} (H : iisValidSubscriber a0 a1 = some r) : Fn Tryz.prog 37 [.agg (eTNetwork a0), aI a1] [.c (.d (.b r))] := by
  refine fn_in Tryz.func37 rfl (by kernel_rfl) Tryz.ntmps37 rfl rfl rfl ?_
  refine wkd ?_
  obtain ⟨x1, hx1, H⟩ := ob H
  refine awr_n rfl (xdT (enc := eTDevice) hx1 (fun _ => rfl) rfl rfl rfl) ?_
  refine wkd ?_
  obtain ⟨x2, hx2, H⟩ := ob H
  refine awr_n rfl (xdT (enc := eTSession) hx2 (fun _ => rfl) rfl rfl rfl) ?_
  refine wkd ?_
  obtain ⟨r3, hr3, H⟩ := ob H
  refine dr_n rfl (ca rfl rfl rfl (iIsValidDevice_c hr3) trivial rfl rfl rfl rfl) ?_
  refine wkd ?_
  obtain ⟨v4, Hj, H⟩ := ob H
  refine dr_join ⟨[(4, tB v4)], [], 0⟩ ?_ ?_
  · have H := Hj
    refine wkd ?_
    refine dg2 rfl rfl rfl (fun h => ?_) (fun h => ?_)
    · have H := bt h H
      refine wkd ?_
      obtain ⟨r5, hr5, H⟩ := ob H
      refine dr_ng rfl rfl rfl rfl (ca rfl rfl rfl (iIsValidSession_c hr5) trivial rfl rfl rfl rfl) ?_
      refine wkd ?_
      refine dg2 rfl rfl rfl (fun h => ?_) (fun h => ?_)
      · have H := bt h H
        refine wkd ?_
        obtain ⟨x6, hx6, H⟩ := ob H
        refine dr_ng rfl rfl rfl rfl (xdT (enc := eTAccount) hx6 (fun _ => rfl) rfl rfl rfl) ?_
        refine wkd ?_
        obtain ⟨r7, hr7, H⟩ := ob H
        refine dr_ng rfl rfl rfl rfl (ca rfl rfl rfl (iIsValidAccount_c hr7) trivial rfl rfl rfl rfl) ?_
        refine wkd ?_
        refine dg2 rfl rfl rfl (fun h => ?_) (fun h => ?_)
        · have H := bt h H
          refine wkd ?_
          refine dg2 rfl rfl rfl (fun h => ?_) (fun h => ?_)
          · have H := bt h H
            refine wkd ?_
            refine dg2 rfl rfl rfl (fun h => ?_) (fun h => ?_)
            · have H := bt h H
              refine wkd ?_
              obtain ⟨r8, hr8, H⟩ := ob H
              refine dr_ng rfl rfl rfl rfl (ca rfl rfl rfl (iisCell_c hr8) trivial rfl rfl rfl rfl) ?_
              refine wkd ?_
              refine dg2 rfl rfl rfl (fun h => ?_) (fun h => ?_)
              · have H := bt h H
                refine wkd ?_
                obtain ⟨r9, hr9, H⟩ := ob H
                refine dr_ng rfl rfl rfl rfl (ca rfl rfl rfl (iisCell_c hr9) trivial rfl rfl rfl rfl) ?_
                refine wkd ?_
                refine dg2 rfl rfl rfl (fun h => ?_) (fun h => ?_)
                · have H := bt h H
                  refine wkd ?_
                  refine dg2 rfl rfl rfl (fun h => ?_) (fun h => ?_)
                  · have H := bt h H
                    refine wkd ?_
                    obtain ⟨x10, hx10, H⟩ := ob H
                    refine dr_ng rfl rfl rfl rfl (xdT (enc := eTAccount) hx10 (fun _ => rfl) rfl rfl rfl) ?_
                    refine wkd ?_
                    obtain ⟨r11, hr11, H⟩ := ob H
                    refine dr_ng rfl rfl rfl rfl (ca rfl rfl rfl (iQuotaMatchesAccount_c hr11) trivial rfl rfl rfl rfl) ?_
                    refine wkd ?_
                    cases H
                    exact weak_of ⟨rfl, rfl, trivial⟩ trivial
                  · have H := bf h H
                    refine wkd ?_
                    cases H
                    exact weak_of ⟨rfl, rfl, trivial⟩ trivial
                · have H := bf h H
                  refine wkd ?_
                  cases H
                  exact weak_of ⟨rfl, rfl, trivial⟩ trivial
              · have H := bf h H
                refine wkd ?_
                cases H
                exact weak_of ⟨rfl, rfl, trivial⟩ trivial
            · have H := bf h H
              refine wkd ?_
              cases H
              exact weak_of ⟨rfl, rfl, trivial⟩ trivial
          · have H := bf h H
            refine wkd ?_
            cases H
            exact weak_of ⟨rfl, rfl, trivial⟩ trivial
        · have H := bf h H
          refine wkd ?_
          cases H
          exact weak_of ⟨rfl, rfl, trivial⟩ trivial
      · have H := bf h H
        refine wkd ?_
        cases H
        exact weak_of ⟨rfl, rfl, trivial⟩ trivial
    · have H := bf h H
      refine wkd ?_
      cases H
      exact weak_of ⟨rfl, rfl, trivial⟩ trivial
  refine wkd ?_
  cases H
  exact fin_ret (.cons (.tmp rfl) .nil) rfl rfl rfl
def iIsValidNetwork_L2 (a0 : TNetwork) : Int → Option (Step (Int) (Bool))
  | v7 => bif ltB v7 ((a0.Flights.length : Nat) : Int) then (Option.bind (ix a0.Flights v7) fun x8 => Option.bind (iInRange x8.Device 0 (WR (((a0.Devices.length : Nat) : Int) - 1))) fun r9 => Option.bind (bif !r9 then (some true) else (Option.bind (iisCell a0.Map x8.Cell) fun r11 => some (!r11))) fun (v10 : Bool) => bif v10 then (dn (some false)) else (some (.next (WR (v7 + 1))))) else (dn (bif leB 0 ((a0.Map.Cells.length : Nat) : Int) then (Option.bind (iInRange a0.DownCells 0 (WR ((bShl .i64 1 ((a0.Map.Cells.length : Nat) : Int)) - 1))) fun r12 => Option.bind (bif r12 then (Option.bind (iInRange a0.Now 0 100000) fun r14 => bif r14 then (some (leB 0 a0.Lost)) else (some false)) else (some false)) fun (v13 : Bool) => some v13) else none))
def iIsValidNetwork_L1 (a0 : TNetwork) : Int → Option (Step (Int) (Bool))
  | v5 => bif ltB v5 ((a0.Devices.length : Nat) : Int) then (Option.bind (iisValidSubscriber a0 v5) fun r6 => bif !r6 then (dn (some false)) else (some (.next (WR (v5 + 1))))) else (dn (bif ltB 200 ((a0.Flights.length : Nat) : Int) then (some false) else (iter (iIsValidNetwork_L2 a0) FU 0)))
def iIsValidNetwork (a0 : TNetwork) : Option Bool :=
  Option.bind (iIsValidMap a0.Map) fun r1 => Option.bind (bif !r1 then (some true) else (Option.bind (iIsValidPool a0.Core) fun r3 => bif !r3 then (some true) else (some (eqB a0.Core.UpMask 0)))) fun (v2 : Bool) => bif v2 then (some false) else (Option.bind (bif ltB 4 ((a0.Devices.length : Nat) : Int) then (some true) else (bif !eqB ((a0.Sessions.length : Nat) : Int) ((a0.Devices.length : Nat) : Int) then (some true) else (some (!eqB ((a0.Accounts.length : Nat) : Int) ((a0.Devices.length : Nat) : Int))))) fun (v4 : Bool) => bif v4 then (some false) else (iter (iIsValidNetwork_L1 a0) FU 0))
theorem iIsValidNetwork_c {a0 : TNetwork} {r : Bool} (H : iIsValidNetwork a0 = some r) : Fn Tryz.prog 9 [.agg (eTNetwork a0)] [.c (.d (.b r))] := by
  refine fn_in Tryz.func9 rfl (by kernel_rfl) Tryz.ntmps9 rfl rfl rfl ?_
  refine wkd ?_
  obtain ⟨r1, hr1, H⟩ := ob H
  refine awr_n rfl (ca rfl rfl rfl (iIsValidMap_c hr1) trivial rfl rfl rfl rfl) ?_
  refine wkd ?_
  obtain ⟨v2, Hj, H⟩ := ob H
  refine awr_join ⟨[(1, .v (.c (.p 0 0))), (21, tB v2)], [(0, .var 40 [.d false (.l (a0.Map.Cells.map eTCell)), .d false (.l (a0.Devices.map eTDevice)), .d false (.l (a0.Sessions.map eTSession)), .d false (.l (a0.Accounts.map eTAccount)), .d false (.l (a0.Flights.map eTFlight)), .d false (.i .i64 a0.DownCells), .d false (.i .i64 a0.Core.Size), .d false (.i .i64 a0.Core.UpMask), .d false (.i .i64 a0.Now), .d false (.i .i64 a0.Lost)])], 1⟩ ?_ ?_
  · have H := Hj
    refine wkd ?_
    refine g2 rfl rfl rfl (fun h => ?_) (fun h => ?_)
    · have H := bt h H
      refine wkd ?_
      cases H
      exact weak_of ⟨rfl, rfl, rfl, rfl, trivial⟩ ⟨rfl, ⟨rfl, rfl⟩, trivial⟩
    · have H := bf h H
      refine wkd ?_
      obtain ⟨r3, hr3, H⟩ := ob H
      refine awr_ng rfl rfl rfl rfl (ca rfl rfl rfl (iIsValidPool_c hr3) trivial rfl rfl rfl rfl) ?_
      refine wkd ?_
      refine g2 rfl rfl rfl (fun h => ?_) (fun h => ?_)
      · have H := bt h H
        refine wkd ?_
        cases H
        exact weak_of ⟨rfl, rfl, rfl, rfl, trivial⟩ ⟨rfl, ⟨rfl, rfl⟩, trivial⟩
      · have H := bf h H
        refine wkd ?_
        cases H
        exact weak_of ⟨rfl, rfl, rfl, rfl, trivial⟩ ⟨rfl, ⟨rfl, rfl⟩, trivial⟩
  refine wkd ?_
  refine awc_cond rfl (fun h => ?_) (fun h => ?_)
  · have H := bt h H
    refine wkd ?_
    cases H
    exact fin_ret (.cons (.tmp rfl) .nil) rfl rfl rfl
  · have H := bf h H
    refine wkd ?_
    obtain ⟨v4, Hj, H⟩ := ob H
    refine awr_join ⟨[(1, .v (.c (.p 0 0))), (43, tB v4)], [(0, .var 40 [.d false (.l (a0.Map.Cells.map eTCell)), .d false (.l (a0.Devices.map eTDevice)), .d false (.l (a0.Sessions.map eTSession)), .d false (.l (a0.Accounts.map eTAccount)), .d false (.l (a0.Flights.map eTFlight)), .d false (.i .i64 a0.DownCells), .d false (.i .i64 a0.Core.Size), .d false (.i .i64 a0.Core.UpMask), .d false (.i .i64 a0.Now), .d false (.i .i64 a0.Lost)])], 1⟩ ?_ ?_
    · have H := Hj
      refine wkd ?_
      refine g2 rfl rfl rfl (fun h => ?_) (fun h => ?_)
      · have H := bt h H
        refine wkd ?_
        cases H
        exact weak_of ⟨rfl, rfl, rfl, rfl, trivial⟩ ⟨rfl, ⟨rfl, rfl⟩, trivial⟩
      · have H := bf h H
        refine wkd ?_
        refine g2 rfl rfl rfl (fun h => ?_) (fun h => ?_)
        · have H := bt h H
          refine wkd ?_
          cases H
          exact weak_of ⟨rfl, rfl, rfl, rfl, trivial⟩ ⟨rfl, ⟨rfl, rfl⟩, trivial⟩
        · have H := bf h H
          refine wkd ?_
          cases H
          exact weak_of ⟨rfl, rfl, rfl, rfl, trivial⟩ ⟨rfl, ⟨rfl, rfl⟩, trivial⟩
    refine wkd ?_
    refine awc_cond rfl (fun h => ?_) (fun h => ?_)
    · have H := bt h H
      refine wkd ?_
      cases H
      exact fin_ret (.cons (.tmp rfl) .nil) rfl rfl rfl
    · have H := bf h H
      refine wkd ?_
      refine awc_iter (fun (q : Int) => ⟨[(1, .v (.c (.p 0 0))), (46, tI ((a0.Devices.length : Nat) : Int)), (47, tI q)], [(0, .var 40 [.d false (.l (a0.Map.Cells.map eTCell)), .d false (.l (a0.Devices.map eTDevice)), .d false (.l (a0.Sessions.map eTSession)), .d false (.l (a0.Accounts.map eTAccount)), .d false (.l (a0.Flights.map eTFlight)), .d false (.i .i64 a0.DownCells), .d false (.i .i64 a0.Core.Size), .d false (.i .i64 a0.Core.UpMask), .d false (.i .i64 a0.Now), .d false (.i .i64 a0.Lost)])], 1⟩) H (weak_of ⟨rfl, rfl, rfl, rfl, rfl, rfl, trivial⟩ ⟨rfl, ⟨rfl, rfl⟩, trivial⟩) ?_
      rintro v5 o H
      try dsimp only
      refine wkd ?_
      refine awc_cond rfl (fun h => ?_) (fun h => ?_)
      · have H := bt h H
        refine wkd ?_
        obtain ⟨r6, hr6, H⟩ := ob H
        refine awr_n rfl (ca rfl rfl rfl (iisValidSubscriber_c hr6) trivial rfl rfl rfl rfl) ?_
        refine wkd ?_
        refine awc_cond rfl (fun h => ?_) (fun h => ?_)
        · have H := bt h H
          refine wkd ?_
          obtain ⟨r0, Hd, rfl⟩ := dnE H
          refine iq_r (fun hq => ?_)
          have H := Hd.trans (congrArg some hq)
          refine wkd ?_
          cases H
          exact fin_ret (.cons (.tmp rfl) .nil) rfl rfl rfl
        · have H := bf h H
          refine wkd ?_
          cases H
          refine iq_n ?_
          exact weak_of ⟨rfl, rfl, rfl, rfl, rfl, rfl, trivial⟩ ⟨rfl, ⟨rfl, rfl⟩, trivial⟩
      · have H := bf h H
        refine wkd ?_
        obtain ⟨r0, Hd, rfl⟩ := dnE H
        refine iq_e (fun hq => ?_)
        have H := Hd.trans (congrArg some hq)
        refine wkd ?_
        refine awc_cond rfl (fun h => ?_) (fun h => ?_)
        · have H := bt h H
          refine wkd ?_
          cases H
          exact fin_ret (.cons (.tmp rfl) .nil) rfl rfl rfl
        · have H := bf h H
          refine wkd ?_
          refine awc_iter (fun (q : Int) => ⟨[(1, .v (.c (.p 0 0))), (60, .v (.c (.d false (.l (a0.Flights.map eTFlight))))), (61, tI ((a0.Flights.length : Nat) : Int)), (62, tI q)], [(0, .var 40 [.d false (.l (a0.Map.Cells.map eTCell)), .d false (.l (a0.Devices.map eTDevice)), .d false (.l (a0.Sessions.map eTSession)), .d false (.l (a0.Accounts.map eTAccount)), .d false (.l (a0.Flights.map eTFlight)), .d false (.i .i64 a0.DownCells), .d false (.i .i64 a0.Core.Size), .d false (.i .i64 a0.Core.UpMask), .d false (.i .i64 a0.Now), .d false (.i .i64 a0.Lost)])], 1⟩) H (weak_of ⟨rfl, rfl, rfl, rfl, rfl, rfl, rfl, rfl, trivial⟩ ⟨rfl, ⟨rfl, rfl⟩, trivial⟩) ?_
          rintro v7 o H
          try dsimp only
          refine wkd ?_
          refine awc_cond rfl (fun h => ?_) (fun h => ?_)
          · have H := bt h H
            refine wkd ?_
            obtain ⟨x8, hx8, H⟩ := ob H
            refine awr_n rfl (xdT (enc := eTFlight) hx8 (fun _ => rfl) rfl rfl rfl) ?_
            refine wkd ?_
            obtain ⟨r9, hr9, H⟩ := ob H
            refine awr_n rfl (ca rfl rfl rfl (iInRange_c hr9) trivial rfl rfl rfl rfl) ?_
            refine wkd ?_
            obtain ⟨v10, Hj, H⟩ := ob H
            refine awr_join ⟨[(1, .v (.c (.p 0 0))), (60, .v (.c (.d false (.l (a0.Flights.map eTFlight))))), (61, tI ((a0.Flights.length : Nat) : Int)), (62, tI v7), (81, tB v10)], [(0, .var 40 [.d false (.l (a0.Map.Cells.map eTCell)), .d false (.l (a0.Devices.map eTDevice)), .d false (.l (a0.Sessions.map eTSession)), .d false (.l (a0.Accounts.map eTAccount)), .d false (.l (a0.Flights.map eTFlight)), .d false (.i .i64 a0.DownCells), .d false (.i .i64 a0.Core.Size), .d false (.i .i64 a0.Core.UpMask), .d false (.i .i64 a0.Now), .d false (.i .i64 a0.Lost)])], 1⟩ ?_ ?_
            · have H := Hj
              refine wkd ?_
              refine g2 rfl rfl rfl (fun h => ?_) (fun h => ?_)
              · have H := bt h H
                refine wkd ?_
                cases H
                exact weak_of ⟨rfl, rfl, rfl, rfl, rfl, rfl, rfl, rfl, rfl, rfl, trivial⟩ ⟨rfl, ⟨rfl, rfl⟩, trivial⟩
              · have H := bf h H
                refine wkd ?_
                obtain ⟨r11, hr11, H⟩ := ob H
                refine awr_ng rfl rfl rfl rfl (ca rfl rfl rfl (iisCell_c hr11) trivial rfl rfl rfl rfl) ?_
                refine wkd ?_
                cases H
                exact weak_of ⟨rfl, rfl, rfl, rfl, rfl, rfl, rfl, rfl, rfl, rfl, trivial⟩ ⟨rfl, ⟨rfl, rfl⟩, trivial⟩
            refine wkd ?_
            refine awc_cond rfl (fun h => ?_) (fun h => ?_)
            · have H := bt h H
              refine wkd ?_
              obtain ⟨r0, Hd, rfl⟩ := dnE H
              refine iq_r (fun hq => ?_)
              have H := Hd.trans (congrArg some hq)
              refine wkd ?_
              cases H
              exact fin_ret (.cons (.tmp rfl) .nil) rfl rfl rfl
            · have H := bf h H
              refine wkd ?_
              cases H
              refine iq_n ?_
              exact weak_of ⟨rfl, rfl, rfl, rfl, rfl, rfl, rfl, rfl, trivial⟩ ⟨rfl, ⟨rfl, rfl⟩, trivial⟩
          · have H := bf h H
            refine wkd ?_
            obtain ⟨r0, Hd, rfl⟩ := dnE H
            refine iq_e (fun hq => ?_)
            have H := Hd.trans (congrArg some hq)
            refine wkd ?_
            obtain ⟨h, H⟩ := rq H
            refine dr_n rfl (ishT h rfl rfl rfl rfl) ?_
            refine wkd ?_
            obtain ⟨r12, hr12, H⟩ := ob H
            refine dr_n rfl (ca rfl rfl rfl (iInRange_c hr12) trivial rfl rfl rfl rfl) ?_
            refine wkd ?_
            obtain ⟨v13, Hj, H⟩ := ob H
            refine dr_join ⟨[(2, tB v13)], [], 0⟩ ?_ ?_
            · have H := Hj
              refine wkd ?_
              refine dg2 rfl rfl rfl (fun h => ?_) (fun h => ?_)
              · have H := bt h H
                refine wkd ?_
                obtain ⟨r14, hr14, H⟩ := ob H
                refine dr_ng rfl rfl rfl rfl (ca rfl rfl rfl (iInRange_c hr14) trivial rfl rfl rfl rfl) ?_
                refine wkd ?_
                refine dg2 rfl rfl rfl (fun h => ?_) (fun h => ?_)
                · have H := bt h H
                  refine wkd ?_
                  cases H
                  exact weak_of ⟨rfl, rfl, trivial⟩ trivial
                · have H := bf h H
                  refine wkd ?_
                  cases H
                  exact weak_of ⟨rfl, rfl, trivial⟩ trivial
              · have H := bf h H
                refine wkd ?_
                cases H
                exact weak_of ⟨rfl, rfl, trivial⟩ trivial
            refine wkd ?_
            cases H
            exact fin_ret (.cons (.tmp rfl) .nil) rfl rfl rfl
def iInSync (a0 : TUSIM) (a1 : TSubscriberRecord) : Option Bool :=
  Option.bind (iIsValidUSIM a0) fun r1 => Option.bind (bif r1 then (Option.bind (iIsValidSubscriberRecord a1) fun r3 => bif r3 then (bif (eqB a0.ID.Network a1.ID.Network && (eqB a0.ID.Number a1.ID.Number && true)) then (bif eqB a0.Key a1.Key then (Option.bind (iInRange (WR (a1.Seq - a0.LastSeq)) 0 1000) fun r4 => some r4) else (some false)) else (some false)) else (some false)) else (some false)) fun (v2 : Bool) => some v2
theorem iInSync_c {a0 : TUSIM} {a1 : TSubscriberRecord} {r : Bool} (H : iInSync a0 a1 = some r) : Fn Tryz.prog 11 [.agg (eTUSIM a0), .agg (eTSubscriberRecord a1)] [.c (.d (.b r))] := by
  refine fn_in Tryz.func11 rfl (by kernel_rfl) Tryz.ntmps11 rfl rfl rfl ?_
  refine wk ?_
  obtain ⟨r1, hr1, H⟩ := ob H
  refine awr_n rfl (ca rfl rfl rfl (iIsValidUSIM_c hr1) trivial rfl rfl rfl rfl) ?_
  refine wk ?_
  obtain ⟨v2, Hj, H⟩ := ob H
  refine awr_join ⟨[(4, tB v2)], [], 0⟩ ?_ ?_
  · have H := Hj
    refine wk ?_
    refine g2 rfl rfl rfl (fun h => ?_) (fun h => ?_)
    · have H := bt h H
      refine wk ?_
      obtain ⟨r3, hr3, H⟩ := ob H
      refine awr_ng rfl rfl rfl rfl (ca rfl rfl rfl (iIsValidSubscriberRecord_c hr3) trivial rfl rfl rfl rfl) ?_
      refine wk ?_
      refine g2 rfl rfl rfl (fun h => ?_) (fun h => ?_)
      · have H := bt h H
        refine wk ?_
        refine g2 rfl rfl rfl (fun h => ?_) (fun h => ?_)
        · have H := bt h H
          refine wk ?_
          refine g2 rfl rfl rfl (fun h => ?_) (fun h => ?_)
          · have H := bt h H
            refine wk ?_
            obtain ⟨r4, hr4, H⟩ := ob H
            refine awr_ng rfl rfl rfl rfl (ca rfl rfl rfl (iInRange_c hr4) trivial rfl rfl rfl rfl) ?_
            refine wk ?_
            cases H
            exact weak_of ⟨rfl, rfl, trivial⟩ trivial
          · have H := bf h H
            refine wk ?_
            cases H
            exact weak_of ⟨rfl, rfl, trivial⟩ trivial
        · have H := bf h H
          refine wk ?_
          cases H
          exact weak_of ⟨rfl, rfl, trivial⟩ trivial
      · have H := bf h H
        refine wk ?_
        cases H
        exact weak_of ⟨rfl, rfl, trivial⟩ trivial
    · have H := bf h H
      refine wk ?_
      cases H
      exact weak_of ⟨rfl, rfl, trivial⟩ trivial
  refine wk ?_
  cases H
  exact fin_ret (.cons (.tmp rfl) .nil) rfl rfl rfl
end Go.AM
