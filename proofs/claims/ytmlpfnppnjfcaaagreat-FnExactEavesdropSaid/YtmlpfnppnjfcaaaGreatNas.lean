/-
  Own text: a part of the abstract machine for this seat (Nas). No statement is proved here.
-/
import Derived.Test.YtmlpfnppnjfcaaaGreatNai
set_option linter.unusedVariables false
namespace Go.AM
open Go.Proofs
attribute [local irreducible] AWN NS AWO AWR AWC DR Weak iterQ
set_option maxRecDepth 100000
set_option maxHeartbeats 4000000
def sl1In (a0 : Int) (a1 : Int) (a2 : Int) : Option Bool :=
  Option.bind (bif leB a1 a0 then (some (leB a0 a2)) else (some false)) fun (v1 : Bool) => some v1
theorem sl1In_c {a0 : Int} {a1 : Int} {a2 : Int} {r : Bool} (H : sl1In a0 a1 a2 = some r) : Fn Tryz.prog 43 [aI a0, aI a1, aI a2] [.c (.d (.b r))] := by
  refine fn_in Tryz.func43 rfl (by kernel_rfl) Tryz.ntmps43 rfl rfl rfl ?_
  refine wk ?_
  obtain ⟨v1, Hj, H⟩ := ob H
  refine awr_join ⟨[(6, tB v1)], [], 0⟩ ?_ ?_
  · have H := Hj
    refine wk ?_
    refine g2 rfl rfl rfl (fun h => ?_) (fun h => ?_)
    · have H := bt h H
      refine wk ?_
      cases H
      exact weak_of ⟨rfl, rfl, trivial⟩ trivial
    · have H := bf h H
      refine wk ?_
      cases H
      exact weak_of ⟨rfl, rfl, trivial⟩ trivial
  refine wk ?_
  cases H
  exact fin_ret (.cons (.tmp rfl) .nil) rfl rfl rfl
def sIsPrefixPath_L1 (a0 : TKeyPath) (a1 : TKeyPath) : Int → Option (Step (Int) (Bool))
  | v1 => bif ltB v1 ((a0.Steps.length : Nat) : Int) then (Option.bind (ix a0.Steps v1) fun x2 => Option.bind (ix a1.Steps v1) fun x3 => bif !eqB x2 x3 then (dn (some false)) else (some (.next (WR (v1 + 1))))) else (dn (some true))
def sIsPrefixPath (a0 : TKeyPath) (a1 : TKeyPath) : Option Bool :=
  bif ltB ((a1.Steps.length : Nat) : Int) ((a0.Steps.length : Nat) : Int) then (some false) else (iter (sIsPrefixPath_L1 a0 a1) FU 0)
theorem sIsPrefixPath_c {a0 : TKeyPath} {a1 : TKeyPath} {r : Bool} (H : sIsPrefixPath a0 a1 = some r) : Fn Tryz.prog 183 [.agg (eTKeyPath a0), .agg (eTKeyPath a1)] [.c (.d (.b r))] := by
  refine fn_in Tryz.func183 rfl (by kernel_rfl) Tryz.ntmps183 rfl rfl rfl ?_
  refine wkd ?_
  refine awc_cond rfl (fun h => ?_) (fun h => ?_)
  · have H := bt h H
    refine wkd ?_
    cases H
    exact fin_ret (.cons (.tmp rfl) .nil) rfl rfl rfl
  · have H := bf h H
    refine wkd ?_
    refine awc_iter (fun (q : Int) => ⟨[(2, .v (.c (.p 0 0))), (3, .v (.c (.p 1 0))), (5, tI q)], [(0, .var 145 [.d false (.l (a0.Steps.map eI))]), (1, .var 145 [.d false (.l (a1.Steps.map eI))])], 2⟩) H (weak_of ⟨rfl, rfl, rfl, rfl, rfl, rfl, trivial⟩ ⟨rfl, ⟨rfl, rfl⟩, rfl, ⟨rfl, rfl⟩, trivial⟩) ?_
    rintro v1 o H
    try dsimp only
    refine wkd ?_
    refine awc_cond rfl (fun h => ?_) (fun h => ?_)
    · have H := bt h H
      refine wkd ?_
      obtain ⟨x2, hx2, H⟩ := ob H
      refine dr_n rfl (xdT (enc := eI) hx2 (fun _ => rfl) rfl rfl rfl) ?_
      refine wkd ?_
      obtain ⟨x3, hx3, H⟩ := ob H
      refine dr_n rfl (xdT (enc := eI) hx3 (fun _ => rfl) rfl rfl rfl) ?_
      refine wkd ?_
      refine awc_cond rfl (fun h => ?_) (fun h => ?_)
      · have H := bt h H
        refine wkd ?_
        obtain ⟨r0, Hd, rfl⟩ := dnE H
        refine iq_r (fun hq => ?_)
        have H := Hd.trans (congrArg some hq)
        refine wkd ?_
        cases H
        exact fin_ret (.cons (.tmp rfl) .nil) rfl rfl rfl
      · have H := bf h H
        refine wkd ?_
        cases H
        refine iq_n ?_
        exact weak_of ⟨rfl, rfl, rfl, rfl, rfl, rfl, trivial⟩ ⟨rfl, ⟨rfl, rfl⟩, rfl, ⟨rfl, rfl⟩, trivial⟩
    · have H := bf h H
      refine wkd ?_
      obtain ⟨r0, Hd, rfl⟩ := dnE H
      refine iq_e (fun hq => ?_)
      have H := Hd.trans (congrArg some hq)
      refine wkd ?_
      cases H
      exact fin_ret (.cons (.tmp rfl) .nil) rfl rfl rfl
def sExposes_L1 (a0 : List TLeakedKey) (a1 : Int) (a2 : TKeyPath) : Int → Option (Step (Int) (Bool))
  | v1 => bif ltB v1 ((a0.length : Nat) : Int) then (Option.bind (ix a0 v1) fun x2 => Option.bind (bif eqB x2.Generation a1 then (Option.bind (ix a0 v1) fun x4 => Option.bind (sIsPrefixPath x4.Path a2) fun r5 => some r5) else (some false)) fun (v3 : Bool) => bif v3 then (dn (some true)) else (some (.next (WR (v1 + 1))))) else (dn (some false))
def sExposes (a0 : List TLeakedKey) (a1 : Int) (a2 : TKeyPath) : Option Bool :=
  iter (sExposes_L1 a0 a1 a2) FU 0
theorem sExposes_c {a0 : List TLeakedKey} {a1 : Int} {a2 : TKeyPath} {r : Bool} (H : sExposes a0 a1 a2 = some r) : Fn Tryz.prog 123 [aL (a0.map eTLeakedKey), aI a1, .agg (eTKeyPath a2)] [.c (.d (.b r))] := by
  refine fn_in Tryz.func123 rfl (by kernel_rfl) Tryz.ntmps123 rfl rfl rfl ?_
  refine wkd ?_
  refine awc_iter (fun (q : Int) => ⟨[(0, .v (.c (.d false (.l (a0.map eTLeakedKey))))), (1, tI a1), (5, .v (.c (.p 0 0))), (7, tI q)], [(0, .var 145 [.d false (.l (a2.Steps.map eI))])], 1⟩) H (weak_of ⟨rfl, rfl, rfl, rfl, rfl, rfl, rfl, rfl, trivial⟩ ⟨rfl, ⟨rfl, rfl⟩, trivial⟩) ?_
  rintro v1 o H
  try dsimp only
  refine wkd ?_
  refine awc_cond rfl (fun h => ?_) (fun h => ?_)
  · have H := bt h H
    refine wkd ?_
    obtain ⟨x2, hx2, H⟩ := ob H
    refine dr_n rfl (xdT (enc := eTLeakedKey) hx2 (fun _ => rfl) rfl rfl rfl) ?_
    refine wkd ?_
    obtain ⟨v3, Hj, H⟩ := ob H
    refine dr_join ⟨[(0, .v (.c (.d false (.l (a0.map eTLeakedKey))))), (1, tI a1), (5, .v (.c (.p 0 0))), (7, tI v1), (29, tB v3)], [(0, .var 145 [.d false (.l (a2.Steps.map eI))])], 1⟩ ?_ ?_
    · have H := Hj
      refine wkd ?_
      refine dg2 rfl rfl rfl (fun h => ?_) (fun h => ?_)
      · have H := bt h H
        refine wkd ?_
        obtain ⟨x4, hx4, H⟩ := ob H
        refine dr_ng rfl rfl rfl rfl (xdT (enc := eTLeakedKey) hx4 (fun _ => rfl) rfl rfl rfl) ?_
        refine wkd ?_
        obtain ⟨r5, hr5, H⟩ := ob H
        refine dr_ng rfl rfl rfl rfl (ca rfl rfl rfl (sIsPrefixPath_c hr5) trivial rfl rfl rfl rfl) ?_
        refine wkd ?_
        cases H
        exact weak_of ⟨rfl, rfl, rfl, rfl, rfl, rfl, rfl, rfl, rfl, rfl, trivial⟩ ⟨rfl, ⟨rfl, rfl⟩, trivial⟩
      · have H := bf h H
        refine wkd ?_
        cases H
        exact weak_of ⟨rfl, rfl, rfl, rfl, rfl, rfl, rfl, rfl, rfl, rfl, trivial⟩ ⟨rfl, ⟨rfl, rfl⟩, trivial⟩
    refine wkd ?_
    refine awc_cond rfl (fun h => ?_) (fun h => ?_)
    · have H := bt h H
      refine wkd ?_
      obtain ⟨r0, Hd, rfl⟩ := dnE H
      refine iq_r (fun hq => ?_)
      have H := Hd.trans (congrArg some hq)
      refine wkd ?_
      cases H
      exact fin_ret (.cons (.tmp rfl) .nil) rfl rfl rfl
    · have H := bf h H
      refine wkd ?_
      cases H
      refine iq_n ?_
      exact weak_of ⟨rfl, rfl, rfl, rfl, rfl, rfl, rfl, rfl, trivial⟩ ⟨rfl, ⟨rfl, rfl⟩, trivial⟩
  · have H := bf h H
    refine wkd ?_
    obtain ⟨r0, Hd, rfl⟩ := dnE H
    refine iq_e (fun hq => ?_)
    have H := Hd.trans (congrArg some hq)
    refine wkd ?_
    cases H
    exact fin_ret (.cons (.tmp rfl) .nil) rfl rfl rfl
def sRadioKeyPath (a0 : Int) : Option TKeyPath :=
  some (⟨[1, 3, a0]⟩ : TKeyPath)
theorem sRadioKeyPath_c {a0 : Int} {r : TKeyPath} (H : sRadioKeyPath a0 = some r) : Fn Tryz.prog 124 [aI a0] [.agg [.own 3 1 (r.Steps.map eI) r.Steps.length]] := by
  refine fn_in Tryz.func124 rfl (by kernel_rfl) Tryz.ntmps124 rfl rfl rfl ?_
  refine wk ?_
  cases H
  exact fin_ret (.cons (.cell rfl rfl rfl) .nil) rfl rfl (by first | rfl | simp)
def sl35Readable (a0 : List TLeakedKey) (a1 : TFlight) : Option Bool :=
  Option.bind (bif a1.IsRadio then (Option.bind (sRadioKeyPath a1.Radio.Epoch) fun r2 => Option.bind (sExposes a0 a1.Radio.Generation r2) fun r3 => some r3) else (some false)) fun (v1 : Bool) => some v1
theorem sl35Readable_c {a0 : List TLeakedKey} {a1 : TFlight} {r : Bool} (H : sl35Readable a0 a1 = some r) : Fn Tryz.prog 64 [aL (a0.map eTLeakedKey), .agg (eTFlight a1)] [.c (.d (.b r))] := by
  refine fn_in Tryz.func64 rfl (by kernel_rfl) Tryz.ntmps64 rfl rfl rfl ?_
  refine wkd ?_
  obtain ⟨v1, Hj, H⟩ := ob H
  refine dr_join ⟨[(4, tB v1)], [], 0⟩ ?_ ?_
  · have H := Hj
    refine wkd ?_
    refine dg2 rfl rfl rfl (fun h => ?_) (fun h => ?_)
    · have H := bt h H
      refine wkd ?_
      obtain ⟨r2, hr2, H⟩ := ob H
      refine dr_ng rfl rfl rfl rfl (ca rfl rfl rfl (sRadioKeyPath_c hr2) trivial rfl rfl rfl rfl) ?_
      refine wkd ?_
      obtain ⟨r3, hr3, H⟩ := ob H
      refine dr_ng rfl rfl rfl rfl (ca rfl rfl rfl (sExposes_c hr3) ⟨by first | rfl | exact lm _, trivial⟩ rfl rfl rfl rfl) ?_
      refine wkd ?_
      cases H
      exact weak_of ⟨rfl, rfl, trivial⟩ trivial
    · have H := bf h H
      refine wkd ?_
      cases H
      exact weak_of ⟨rfl, rfl, trivial⟩ trivial
  refine wkd ?_
  cases H
  exact fin_ret (.cons (.tmp rfl) .nil) rfl rfl rfl
def sMod (a0 : Int) (a1 : Int) : Option Int :=
  Option.bind (sl1In a1 1 1000000000000) fun r1 => bif !r1 then (some 0) else (bif !eqB a1 0 then (bif !eqB a1 0 then (some (Int.tmod (WR ((Int.tmod a0 a1) + a1)) a1)) else none) else none)
theorem sMod_c {a0 : Int} {a1 : Int} {r : Int} (H : sMod a0 a1 = some r) : Fn Tryz.prog 236 [aI a0, aI a1] [.c (.d (.i .i64 r))] := by
  refine fn_in Tryz.func236 rfl (by kernel_rfl) Tryz.ntmps236 rfl rfl rfl ?_
  refine wk ?_
  obtain ⟨r1, hr1, H⟩ := ob H
  refine awr_n rfl (ca rfl rfl rfl (sl1In_c hr1) trivial rfl rfl rfl rfl) ?_
  refine wk ?_
  refine awc_cond rfl (fun h => ?_) (fun h => ?_)
  · have H := bt h H
    refine wk ?_
    cases H
    exact fin_ret (.cons (.tmp rfl) .nil) rfl rfl rfl
  · have H := bf h H
    refine wk ?_
    obtain ⟨h, H⟩ := rq H
    refine awr_n rfl (ir rfl rfl rfl (ne0 h)) ?_
    refine wk ?_
    obtain ⟨h, H⟩ := rq H
    refine awr_n rfl (ir rfl rfl rfl (ne0 h)) ?_
    refine wk ?_
    cases H
    exact fin_ret (.cons (.tmp rfl) .nil) rfl rfl rfl
def sHash_L1 (a0 : List Int) : (Int × Int) → Option (Step (Int × Int) (Int))
  | (v1, v2) => bif ltB v2 ((a0.length : Nat) : Int) then (Option.bind (ix a0 v2) fun x6 => Option.bind (sMod x6 2147483647) fun r7 => some (.next (Int.tmod (WR ((WR ((WR (v1 * 1000003)) + r7)) + 13)) 2147483647, WR (v2 + 1)))) else (some (.done v1))
def sHash (a0 : List Int) : Option Int :=
  Option.bind (iter (sHash_L1 a0) FU (11, 0)) fun (v5 : Int) => some v5
theorem sHash_c {a0 : List Int} {r : Int} (H : sHash a0 = some r) : Fn Tryz.prog 257 [aL (a0.map eI)] [.c (.d (.i .i64 r))] := by
  refine fn_in Tryz.func257 rfl (by kernel_rfl) Tryz.ntmps257 rfl rfl rfl ?_
  refine wk ?_
  obtain ⟨v5, Hj, H⟩ := ob H
  refine awc_jblk ⟨[(3, tI v5)], [], 0⟩ ?_ ?_
  · refine wk ?_
    refine awc_iter (fun (q : Int × Int) => ⟨[(0, .v (.c (.d false (.l (a0.map eI))))), (3, tI q.1), (4, tI q.2)], [], 0⟩) Hj (weak_of ⟨rfl, rfl, rfl, rfl, rfl, rfl, trivial⟩ trivial) ?_
    rintro ⟨v1, v2⟩ o H
    try dsimp only
    refine wk ?_
    refine awc_cond rfl (fun h => ?_) (fun h => ?_)
    · have H := bt h H
      refine wk ?_
      obtain ⟨x6, hx6, H⟩ := ob H
      refine awr_n rfl (xdT (enc := eI) hx6 (fun _ => rfl) rfl rfl rfl) ?_
      refine wk ?_
      obtain ⟨r7, hr7, H⟩ := ob H
      refine awr_n rfl (ca rfl rfl rfl (sMod_c hr7) trivial rfl rfl rfl rfl) ?_
      refine wk ?_
      refine awr_n rfl (ir rfl rfl rfl (by decide)) ?_
      refine wk ?_
      cases H
      refine iq_n ?_
      exact weak_of ⟨rfl, rfl, rfl, rfl, rfl, rfl, trivial⟩ trivial
    · have H := bf h H
      refine wk ?_
      cases H
      refine iq_e (fun hq => ?_)
      cases hq
      refine wk ?_
      exact weak_of ⟨rfl, rfl, trivial⟩ trivial
  refine wk ?_
  cases H
  exact fin_ret (.cons (.tmp rfl) .nil) rfl rfl rfl
def sKeyedHash (a0 : Int) (a1 : List Int) : Option Int :=
  bif apOk 8 ([a0] ++ a1).length then (bif apOk 8 (([a0] ++ a1) ++ [a0]).length then (Option.bind (sHash (([a0] ++ a1) ++ [a0])) fun r1 => some r1) else none) else none
theorem sKeyedHash_c {a0 : Int} {a1 : List Int} {r : Int} (H : sKeyedHash a0 a1 = some r) : Fn Tryz.prog 237 [aI a0, aL (a1.map eI)] [.c (.d (.i .i64 r))] := by
  refine fn_in Tryz.func237 rfl (by kernel_rfl) Tryz.ntmps237 rfl rfl rfl ?_
  refine wk ?_
  obtain ⟨h, H⟩ := rq H
  refine awr_step rfl (apT (enc := eI) (ys := [a0]) (zs := a1) h rfl (fun _ => rfl) (by first | rfl | simp) .d rfl rfl rfl rfl rfl rfl rfl rfl) ?_
  refine awr_weak (weak_flat (enc := eI) (o := 0) rfl (fun _ => rfl)) ?_
  refine wk ?_
  obtain ⟨h, H⟩ := rq H
  refine awr_step rfl (apT (enc := eI) (ys := ([a0] ++ a1)) (zs := [a0]) h rfl (fun _ => rfl) (by first | rfl | simp) (.w rfl (by first | rfl | exact lm _ | simp)) rfl rfl rfl rfl rfl rfl rfl rfl) ?_
  refine wk ?_
  obtain ⟨r1, hr1, H⟩ := ob H
  refine awr_n rfl (ca rfl rfl rfl (sHash_c hr1) ⟨by first | rfl | exact lm _, trivial⟩ rfl rfl rfl rfl) ?_
  refine wk ?_
  cases H
  exact fin_ret (.cons (.tmp rfl) .nil) rfl rfl rfl
def sMax (a0 : Int) (a1 : Int) : Option Int :=
  bif ltB a0 a1 then (some a1) else (some a0)
theorem sMax_c {a0 : Int} {a1 : Int} {r : Int} (H : sMax a0 a1 = some r) : Fn Tryz.prog 238 [aI a0, aI a1] [.c (.d (.i .i64 r))] := by
  refine fn_in Tryz.func238 rfl (by kernel_rfl) Tryz.ntmps238 rfl rfl rfl ?_
  refine wk ?_
  refine awc_cond rfl (fun h => ?_) (fun h => ?_)
  · have H := bt h H
    refine wk ?_
    cases H
    exact fin_ret (.cons (.tmp rfl) .nil) rfl rfl rfl
  · have H := bf h H
    refine wk ?_
    cases H
    exact fin_ret (.cons (.tmp rfl) .nil) rfl rfl rfl
def sDeriveKey (a0 : Int) (a1 : Int) : Option Int :=
  Option.bind (sKeyedHash a0 [9, a1]) fun r1 => Option.bind (sMax 1 r1) fun r2 => some r2
theorem sDeriveKey_c {a0 : Int} {a1 : Int} {r : Int} (H : sDeriveKey a0 a1 = some r) : Fn Tryz.prog 187 [aI a0, aI a1] [.c (.d (.i .i64 r))] := by
  refine fn_in Tryz.func187 rfl (by kernel_rfl) Tryz.ntmps187 rfl rfl rfl ?_
  refine wk ?_
  obtain ⟨r1, hr1, H⟩ := ob H
  refine awr_n rfl (ca rfl rfl rfl (sKeyedHash_c hr1) ⟨by first | rfl | exact lm _, trivial⟩ rfl rfl rfl rfl) ?_
  refine wk ?_
  obtain ⟨r2, hr2, H⟩ := ob H
  refine awr_n rfl (ca rfl rfl rfl (sMax_c hr2) trivial rfl rfl rfl rfl) ?_
  refine wk ?_
  cases H
  exact fin_ret (.cons (.tmp rfl) .nil) rfl rfl rfl
def sKeyForPath_L1 (a1 : TKeyPath) : (Int × Int) → Option (Step (Int × Int) (Int))
  | (v1, v2) => bif ltB v2 ((a1.Steps.length : Nat) : Int) then (Option.bind (ix a1.Steps v2) fun x6 => Option.bind (sDeriveKey v1 x6) fun r7 => some (.next (r7, WR (v2 + 1)))) else (some (.done v1))
def sKeyForPath (a0 : Int) (a1 : TKeyPath) : Option Int :=
  Option.bind (iter (sKeyForPath_L1 a1) FU (a0, 0)) fun (v5 : Int) => some v5
theorem sKeyForPath_c {a0 : Int} {a1 : TKeyPath} {r : Int} (H : sKeyForPath a0 a1 = some r) : Fn Tryz.prog 188 [aI a0, .agg (eTKeyPath a1)] [.c (.d (.i .i64 r))] := by
  refine fn_in Tryz.func188 rfl (by kernel_rfl) Tryz.ntmps188 rfl rfl rfl ?_
  refine wk ?_
  obtain ⟨v5, Hj, H⟩ := ob H
  refine awc_jblk ⟨[(5, tI v5)], [], 0⟩ ?_ ?_
  · refine wk ?_
    refine awc_iter (fun (q : Int × Int) => ⟨[(3, .v (.c (.p 0 0))), (5, tI q.1), (6, tI q.2)], [(0, .var 145 [.d false (.l (a1.Steps.map eI))])], 1⟩) Hj (weak_of ⟨rfl, rfl, rfl, rfl, rfl, rfl, trivial⟩ ⟨rfl, ⟨rfl, rfl⟩, trivial⟩) ?_
    rintro ⟨v1, v2⟩ o H
    try dsimp only
    refine wk ?_
    refine awc_cond rfl (fun h => ?_) (fun h => ?_)
    · have H := bt h H
      refine wk ?_
      obtain ⟨x6, hx6, H⟩ := ob H
      refine awr_n rfl (xdT (enc := eI) hx6 (fun _ => rfl) rfl rfl rfl) ?_
      refine wk ?_
      obtain ⟨r7, hr7, H⟩ := ob H
      refine awr_n rfl (ca rfl rfl rfl (sDeriveKey_c hr7) trivial rfl rfl rfl rfl) ?_
      refine wk ?_
      cases H
      refine iq_n ?_
      exact weak_of ⟨rfl, rfl, rfl, rfl, rfl, rfl, trivial⟩ ⟨rfl, ⟨rfl, rfl⟩, trivial⟩
    · have H := bf h H
      refine wk ?_
      cases H
      refine iq_e (fun hq => ?_)
      cases hq
      refine wk ?_
      exact weak_of ⟨rfl, rfl, trivial⟩ trivial
  refine wk ?_
  cases H
  exact fin_ret (.cons (.tmp rfl) .nil) rfl rfl rfl
def sRadioKey (a0 : Int) (a1 : Int) : Option Int :=
  Option.bind (sRadioKeyPath a1) fun r1 => Option.bind (sKeyForPath a0 r1) fun r2 => some r2
theorem sRadioKey_c {a0 : Int} {a1 : Int} {r : Int} (H : sRadioKey a0 a1 = some r) : Fn Tryz.prog 127 [aI a0, aI a1] [.c (.d (.i .i64 r))] := by
  refine fn_in Tryz.func127 rfl (by kernel_rfl) Tryz.ntmps127 rfl rfl rfl ?_
  refine wk ?_
  obtain ⟨r1, hr1, H⟩ := ob H
  refine awr_n rfl (ca rfl rfl rfl (sRadioKeyPath_c hr1) trivial rfl rfl rfl rfl) ?_
  refine wk ?_
  obtain ⟨r2, hr2, H⟩ := ob H
  refine awr_n rfl (ca rfl rfl rfl (sKeyForPath_c hr2) ⟨by first | rfl | exact lm _, trivial⟩ rfl rfl rfl rfl) ?_
  refine wk ?_
  cases H
  exact fin_ret (.cons (.tmp rfl) .nil) rfl rfl rfl
def sIsValidSecured (a0 : TSecuredMessage) : Option Bool :=
  Option.bind (sl1In a0.Direction 0 1) fun r1 => Option.bind (bif r1 then (Option.bind (sl1In a0.Count 1 100000) fun r3 => bif r3 then (bif leB ((a0.Data.length : Nat) : Int) 60 then (Option.bind (sl1In a0.MAC 0 2147483646) fun r4 => some r4) else (some false)) else (some false)) else (some false)) fun (v2 : Bool) => some v2
theorem sIsValidSecured_c {a0 : TSecuredMessage} {r : Bool} (H : sIsValidSecured a0 = some r) : Fn Tryz.prog 184 [.agg (eTSecuredMessage a0)] [.c (.d (.b r))] := by
  refine fn_in Tryz.func184 rfl (by kernel_rfl) Tryz.ntmps184 rfl rfl rfl ?_
  refine wk ?_
  obtain ⟨r1, hr1, H⟩ := ob H
  refine awr_n rfl (ca rfl rfl rfl (sl1In_c hr1) trivial rfl rfl rfl rfl) ?_
  refine wk ?_
  obtain ⟨v2, Hj, H⟩ := ob H
  refine awr_join ⟨[(2, tB v2)], [], 0⟩ ?_ ?_
  · have H := Hj
    refine wk ?_
    refine g2 rfl rfl rfl (fun h => ?_) (fun h => ?_)
    · have H := bt h H
      refine wk ?_
      obtain ⟨r3, hr3, H⟩ := ob H
      refine awr_ng rfl rfl rfl rfl (ca rfl rfl rfl (sl1In_c hr3) trivial rfl rfl rfl rfl) ?_
      refine wk ?_
      refine g2 rfl rfl rfl (fun h => ?_) (fun h => ?_)
      · have H := bt h H
        refine wk ?_
        refine g2 rfl rfl rfl (fun h => ?_) (fun h => ?_)
        · have H := bt h H
          refine wk ?_
          obtain ⟨r4, hr4, H⟩ := ob H
          refine awr_ng rfl rfl rfl rfl (ca rfl rfl rfl (sl1In_c hr4) trivial rfl rfl rfl rfl) ?_
          refine wk ?_
          cases H
          exact weak_of ⟨rfl, rfl, trivial⟩ trivial
        · have H := bf h H
          refine wk ?_
          cases H
          exact weak_of ⟨rfl, rfl, trivial⟩ trivial
      · have H := bf h H
        refine wk ?_
        cases H
        exact weak_of ⟨rfl, rfl, trivial⟩ trivial
    · have H := bf h H
      refine wk ?_
      cases H
      exact weak_of ⟨rfl, rfl, trivial⟩ trivial
  refine wk ?_
  cases H
  exact fin_ret (.cons (.tmp rfl) .nil) rfl rfl rfl
def sBytesToInts_L1 (a0 : List Int) : (Int × List Int) → Option (Step (Int × List Int) (List Int))
  | (v1, v2) => bif ltB v1 ((a0.length : Nat) : Int) then (Option.bind (ix a0 v1) fun x5 => bif apOk 8 (v2 ++ [WR (x5)]).length then (some (.next (WR (v1 + 1), (v2 ++ [WR (x5)])))) else none) else (some (.done v2))
def sBytesToInts (a0 : List Int) : Option (List Int) :=
  Option.bind (iter (sBytesToInts_L1 a0) FU (0, [((a0.length : Nat) : Int)])) fun (v4 : List Int) => some v4
theorem sBytesToInts_c {a0 : List Int} {r : List Int} (H : sBytesToInts a0 = some r) : Fn Tryz.prog 256 [aL (a0.map eU8)] [.c (.own 3 1 (r.map eI) r.length)] := by
  refine fn_in Tryz.func256 rfl (by kernel_rfl) Tryz.ntmps256 rfl rfl rfl ?_
  refine wk ?_
  obtain ⟨v4, Hj, H⟩ := ob H
  refine awc_jblk ⟨[(3, .v (.c (.w 0 v4.length)))], [(0, .row 3 1 (v4.map eI) true true)], 1⟩ ?_ ?_
  · refine wk ?_
    refine awc_iter (fun (q : Int × List Int) => ⟨[(0, .v (.c (.d false (.l (a0.map eU8))))), (3, .v (.c (.w 0 q.2.length))), (4, tI q.1)], [(0, .row 3 1 (q.2.map eI) true true)], 1⟩) Hj (weak_of ⟨rfl, rfl, wn rfl (by first | rfl | simp), rfl, rfl, rfl, trivial⟩ ⟨rfl, ⟨rfl, rfl⟩, trivial⟩) ?_
    rintro ⟨v1, v2⟩ o H
    try dsimp only
    refine wk ?_
    refine awc_cond rfl (fun h => ?_) (fun h => ?_)
    · have H := bt h H
      refine wk ?_
      obtain ⟨x5, hx5, H⟩ := ob H
      refine awr_n rfl (xdT (enc := eU8) hx5 (fun _ => rfl) rfl rfl rfl) ?_
      refine wk ?_
      obtain ⟨h, H⟩ := rq H
      refine awr_step rfl (apT (enc := eI) (ys := v2) (zs := [WR (x5)]) h rfl (fun _ => rfl) (by first | rfl | simp) (.w rfl (by first | rfl | exact lm _ | simp)) rfl rfl rfl rfl rfl rfl rfl rfl) ?_
      refine wk ?_
      cases H
      refine iq_n ?_
      exact weak_of ⟨rfl, rfl, wn rfl (by first | rfl | simp), rfl, rfl, rfl, trivial⟩ ⟨rfl, ⟨rfl, rfl⟩, trivial⟩
    · have H := bf h H
      refine wk ?_
      cases H
      refine iq_e (fun hq => ?_)
      cases hq
      refine wk ?_
      exact weak_of ⟨wn rfl (by first | rfl | simp), rfl, trivial⟩ ⟨rfl, ⟨rfl, rfl⟩, trivial⟩
  refine wk ?_
  cases H
  exact fin_ret (.cons (.tmp rfl) .nil) rfl rfl (by first | rfl | simp)
def sl8Mac (a0 : Int) (a1 : TSecuredMessage) : Option Int :=
  Option.bind (sBytesToInts a1.Data) fun r1 => bif apOk 8 ([a1.Direction, a1.Count] ++ r1).length then (Option.bind (sKeyedHash a0 ([a1.Direction, a1.Count] ++ r1)) fun r2 => some r2) else none
theorem sl8Mac_c {a0 : Int} {a1 : TSecuredMessage} {r : Int} (H : sl8Mac a0 a1 = some r) : Fn Tryz.prog 235 [aI a0, .agg (eTSecuredMessage a1)] [.c (.d (.i .i64 r))] := by
  refine fn_in Tryz.func235 rfl (by kernel_rfl) Tryz.ntmps235 rfl rfl rfl ?_
  refine wkz ?_
  refine awc_dz [0, 1, 2, 3, 4, 5, 6, 7, 8, 9, 10, 11] Try.follows (by kernel_rfl) (by kernel_rfl) rfl ?_
  refine wkz ?_
  obtain ⟨r1, hr1, H⟩ := ob H
  refine dz_n rfl (ca rfl rfl rfl (sBytesToInts_c hr1) trivial rfl rfl rfl rfl) ?_
  refine wkz ?_
  obtain ⟨h, H⟩ := rq H
  refine dz_w rfl (apxF (enc := eI) (ys := [a1.Direction, a1.Count]) (zs := r1) [1, 2] h rfl (fun _ => rfl) (fun _ => rfl) (by first | rfl | simp) rfl (.w rfl (by first | rfl | exact lm _ | simp)) rfl rfl rfl rfl rfl rfl) ?_
  refine wkz ?_
  obtain ⟨r2, hr2, H⟩ := ob H
  refine dz_n rfl (ca rfl rfl rfl (sKeyedHash_c hr2) ⟨by first | rfl | exact lm _, trivial⟩ rfl rfl rfl rfl) ?_
  refine wkz ?_
  refine dz_nilk (ds := [1]) (by kernel_rfl) (by kernel_rfl) rfl ?_
  refine wkz ?_
  cases H
  exact fin_ret (.cons (.tmp rfl) .nil) rfl rfl rfl
def sVerifyMAC (a0 : Int) (a1 : TSecuredMessage) : Option Bool :=
  Option.bind (sl8Mac a0 a1) fun r1 => some (eqB a1.MAC r1)
theorem sVerifyMAC_c {a0 : Int} {a1 : TSecuredMessage} {r : Bool} (H : sVerifyMAC a0 a1 = some r) : Fn Tryz.prog 185 [aI a0, .agg (eTSecuredMessage a1)] [.c (.d (.b r))] := by
  refine fn_in Tryz.func185 rfl (by kernel_rfl) Tryz.ntmps185 rfl rfl rfl ?_
  refine wkd ?_
  obtain ⟨r1, hr1, H⟩ := ob H
  refine dr_n rfl (ca rfl rfl rfl (sl8Mac_c hr1) trivial rfl rfl rfl rfl) ?_
  refine wkd ?_
  cases H
  exact fin_ret (.cons (.tmp rfl) .nil) rfl rfl rfl
def sVerifyRadio (a0 : Int) (a1 : TRadioPacket) : Option Bool :=
  Option.bind (sIsValidSecured a1.Message) fun r1 => Option.bind (bif r1 then (bif eqB a1.Message.Direction 1 then (Option.bind (sRadioKey a0 a1.Epoch) fun r3 => Option.bind (sVerifyMAC r3 a1.Message) fun r4 => some r4) else (some false)) else (some false)) fun (v2 : Bool) => some v2
theorem sVerifyRadio_c {a0 : Int} {a1 : TRadioPacket} {r : Bool} (H : sVerifyRadio a0 a1 = some r) : Fn Tryz.prog 125 [aI a0, .agg (eTRadioPacket a1)] [.c (.d (.b r))] := by
  refine fn_in Tryz.func125 rfl (by kernel_rfl) Tryz.ntmps125 rfl rfl rfl ?_
  refine wkd ?_
  obtain ⟨r1, hr1, H⟩ := ob H
  refine dr_n rfl (ca rfl rfl rfl (sIsValidSecured_c hr1) trivial rfl rfl rfl rfl) ?_
  refine wkd ?_
  obtain ⟨v2, Hj, H⟩ := ob H
  refine dr_join ⟨[(4, tB v2)], [], 0⟩ ?_ ?_
  · have H := Hj
    refine wkd ?_
    refine dg2 rfl rfl rfl (fun h => ?_) (fun h => ?_)
    · have H := bt h H
      refine wkd ?_
      refine dg2 rfl rfl rfl (fun h => ?_) (fun h => ?_)
      · have H := bt h H
        refine wkd ?_
        obtain ⟨r3, hr3, H⟩ := ob H
        refine dr_ng rfl rfl rfl rfl (ca rfl rfl rfl (sRadioKey_c hr3) trivial rfl rfl rfl rfl) ?_
        refine wkd ?_
        obtain ⟨r4, hr4, H⟩ := ob H
        refine dr_ng rfl rfl rfl rfl (ca rfl rfl rfl (sVerifyMAC_c hr4) trivial rfl rfl rfl rfl) ?_
        refine wkd ?_
        cases H
        exact weak_of ⟨rfl, rfl, trivial⟩ trivial
      · have H := bf h H
        refine wkd ?_
        cases H
        exact weak_of ⟨rfl, rfl, trivial⟩ trivial
    · have H := bf h H
      refine wkd ?_
      cases H
      exact weak_of ⟨rfl, rfl, trivial⟩ trivial
  refine wkd ?_
  cases H
  exact fin_ret (.cons (.tmp rfl) .nil) rfl rfl rfl
def sDecrypt_L1 (a0 : Int) (a1 : List Int) : (Int × List Int) → Option (Step (Int × List Int) (List Int))
  | (v1, v2) => bif ltB v1 ((a1.length : Nat) : Int) then (Option.bind (ix a1 v1) fun x7 => Option.bind (sKeyedHash a0 [v1]) fun r8 => Option.bind (sMod (WR ((WR (x7)) - (Int.tmod r8 256))) 256) fun r9 => bif apOk 1 (v2 ++ [IntKind.u8.wrap (r9)]).length then (some (.next (WR (v1 + 1), (v2 ++ [IntKind.u8.wrap (r9)])))) else none) else (some (.done v2))
def sDecrypt (a0 : Int) (a1 : List Int) : Option (List Int) :=
  Option.bind (iter (sDecrypt_L1 a0 a1) FU (0, ([] : List Int))) fun (v6 : List Int) => some v6
theorem sDecrypt_c {a0 : Int} {a1 : List Int} {r : List Int} (H : sDecrypt a0 a1 = some r) : Fn Tryz.prog 186 [aI a0, aL (a1.map eU8)] [.c (.own 5 1 (r.map eU8) r.length)] := by
  refine fn_in Tryz.func186 rfl (by kernel_rfl) Tryz.ntmps186 rfl rfl rfl ?_
  refine wkz ?_
  obtain ⟨v6, Hj, H⟩ := ob H
  refine awc_jblk ⟨[(5, .v (.c (.w 0 v6.length)))], [(0, .row 5 1 (v6.map eU8) true true)], 1⟩ ?_ ?_
  · refine wkz ?_
    refine awc_iter (fun (q : Int × List Int) => ⟨[(0, tI a0), (1, .v (.c (.d false (.l (a1.map eU8))))), (5, .v (.c (.w 0 q.2.length))), (6, tI q.1)], [(0, .row 5 1 (q.2.map eU8) true true)], 1⟩) Hj (weak_of ⟨rfl, rfl, rfl, rfl, wn rfl (by first | rfl | simp), rfl, rfl, rfl, trivial⟩ ⟨rfl, ⟨rfl, rfl⟩, trivial⟩) ?_
    rintro ⟨v1, v2⟩ o H
    try dsimp only
    refine wkz ?_
    refine awc_cond rfl (fun h => ?_) (fun h => ?_)
    · have H := bt h H
      refine wkz ?_
      refine awc_dz [0, 1, 2, 3, 4, 5, 6, 7, 8, 9, 10, 11, 12, 13, 14, 15, 16] Try.follows (by kernel_rfl) (by kernel_rfl) rfl ?_
      refine wkz ?_
      obtain ⟨x7, hx7, H⟩ := ob H
      refine dz_n rfl (xdT (enc := eU8) hx7 (fun _ => rfl) rfl rfl rfl) ?_
      refine wkz ?_
      obtain ⟨r8, hr8, H⟩ := ob H
      refine dz_n rfl (ca rfl rfl rfl (sKeyedHash_c hr8) ⟨by first | rfl | exact lm _, trivial⟩ rfl rfl rfl rfl) ?_
      refine wkz ?_
      refine dz_n rfl (ir rfl rfl rfl (by decide)) ?_
      refine wkz ?_
      obtain ⟨r9, hr9, H⟩ := ob H
      refine dz_n rfl (ca rfl rfl rfl (sMod_c hr9) trivial rfl rfl rfl rfl) ?_
      refine wkz ?_
      obtain ⟨h, H⟩ := rq H
      refine dz_w rfl (apxF (enc := eU8) (ys := v2) (zs := [IntKind.u8.wrap (r9)]) [0, 2] h rfl (fun _ => rfl) (fun _ => rfl) (by first | rfl | simp) rfl (.w rfl (by first | rfl | exact lm _ | simp)) rfl rfl rfl rfl rfl rfl) ?_
      refine wkz ?_
      refine dz_nilk (ds := [0]) (by kernel_rfl) (by kernel_rfl) rfl ?_
      refine wkz ?_
      cases H
      refine iq_n ?_
      refine weak_trans (weak_swp (p := 0) (q := 3) rfl rfl rfl rfl) ?_
      exact weak_of ⟨rfl, rfl, rfl, rfl, wn rfl (by first | rfl | simp), rfl, rfl, rfl, trivial⟩ ⟨rfl, ⟨rfl, rfl⟩, trivial⟩
    · have H := bf h H
      refine wkz ?_
      cases H
      refine iq_e (fun hq => ?_)
      cases hq
      refine wkz ?_
      exact weak_of ⟨wn rfl (by first | rfl | simp), rfl, trivial⟩ ⟨rfl, ⟨rfl, rfl⟩, trivial⟩
  refine wkz ?_
  cases H
  exact fin_ret (.cons (.tmp rfl) .nil) rfl rfl (by first | rfl | simp)
def sUnprotect (a0 : Int) (a1 : Int) (a2 : Int) (a3 : TSecuredMessage) : Option (List Int × Int × Bool) :=
  Option.bind (sIsValidSecured a3) fun r1 => Option.bind (bif !r1 then (some true) else (bif !eqB a3.Direction a1 then (some true) else (Option.bind (sVerifyMAC a0 a3) fun r3 => bif !r3 then (some true) else (some (leB a3.Count a2))))) fun (v2 : Bool) => bif v2 then (some (([] : List Int), a2, false)) else (Option.bind (sDeriveKey a0 (WR ((WR (2 * a3.Count)) + a3.Direction))) fun r4 => Option.bind (sDecrypt r4 a3.Data) fun r5 => some (r5, a3.Count, true))
theorem sUnprotect_c {a0 : Int} {a1 : Int} {a2 : Int} {a3 : TSecuredMessage} {r : List Int × Int × Bool} (H : sUnprotect a0 a1 a2 a3 = some r) : Fn Tryz.prog 126 [aI a0, aI a1, aI a2, .agg (eTSecuredMessage a3)] [.c (.own 5 1 (r.1.map eU8) r.1.length), .c (.d (.i .i64 r.2.1)), .c (.d (.b r.2.2))] := by
  refine fn_in Tryz.func126 rfl (by kernel_rfl) Tryz.ntmps126 rfl rfl rfl ?_
  refine wkd ?_
  obtain ⟨r1, hr1, H⟩ := ob H
  refine awr_n rfl (ca rfl rfl rfl (sIsValidSecured_c hr1) trivial rfl rfl rfl rfl) ?_
  refine wkd ?_
  obtain ⟨v2, Hj, H⟩ := ob H
  refine awr_join ⟨[(0, tI a0), (2, tI a2), (7, .v (.c (.p 0 0))), (31, tB v2)], [(0, .var 116 [.d false (.i .i64 a3.Direction), .d false (.i .i64 a3.Count), .d false (.l (a3.Data.map eU8)), .d false (.i .i64 a3.MAC)])], 1⟩ ?_ ?_
  · have H := Hj
    refine wkd ?_
    refine g2 rfl rfl rfl (fun h => ?_) (fun h => ?_)
    · have H := bt h H
      refine wkd ?_
      cases H
      exact weak_of ⟨rfl, rfl, rfl, rfl, rfl, rfl, rfl, rfl, trivial⟩ ⟨rfl, ⟨rfl, rfl⟩, trivial⟩
    · have H := bf h H
      refine wkd ?_
      refine g2 rfl rfl rfl (fun h => ?_) (fun h => ?_)
      · have H := bt h H
        refine wkd ?_
        cases H
        exact weak_of ⟨rfl, rfl, rfl, rfl, rfl, rfl, rfl, rfl, trivial⟩ ⟨rfl, ⟨rfl, rfl⟩, trivial⟩
      · have H := bf h H
        refine wkd ?_
        obtain ⟨r3, hr3, H⟩ := ob H
        refine awr_ng rfl rfl rfl rfl (ca rfl rfl rfl (sVerifyMAC_c hr3) trivial rfl rfl rfl rfl) ?_
        refine wkd ?_
        refine g2 rfl rfl rfl (fun h => ?_) (fun h => ?_)
        · have H := bt h H
          refine wkd ?_
          cases H
          exact weak_of ⟨rfl, rfl, rfl, rfl, rfl, rfl, rfl, rfl, trivial⟩ ⟨rfl, ⟨rfl, rfl⟩, trivial⟩
        · have H := bf h H
          refine wkd ?_
          cases H
          exact weak_of ⟨rfl, rfl, rfl, rfl, rfl, rfl, rfl, rfl, trivial⟩ ⟨rfl, ⟨rfl, rfl⟩, trivial⟩
  refine wkd ?_
  refine awc_cond rfl (fun h => ?_) (fun h => ?_)
  · have H := bt h H
    refine wkd ?_
    cases H
    exact fin_ret (.cons (.tmp rfl) (.cons (.tmp rfl) (.cons (.tmp rfl) .nil))) rfl rfl (by first | rfl | simp)
  · have H := bf h H
    refine wkd ?_
    obtain ⟨r4, hr4, H⟩ := ob H
    refine dr_n rfl (ca rfl rfl rfl (sDeriveKey_c hr4) trivial rfl rfl rfl rfl) ?_
    refine wkd ?_
    obtain ⟨r5, hr5, H⟩ := ob H
    refine dr_n rfl (ca rfl rfl rfl (sDecrypt_c hr5) trivial rfl rfl rfl rfl) ?_
    refine wkd ?_
    cases H
    exact fin_ret (.cons (.tmp rfl) (.cons (.tmp rfl) (.cons (.tmp rfl) .nil))) rfl rfl (by first | rfl | simp)
def sOpenRadio (a0 : Int) (a1 : Int) (a2 : Int) (a3 : TRadioPacket) : Option (TNumberedPacket × Bool) :=
  Option.bind (bif !eqB a3.Generation a1 then (some true) else (bif !eqB a3.Epoch a2 then (some true) else (Option.bind (sVerifyRadio a0 a3) fun r2 => some (!r2)))) fun (v1 : Bool) => bif v1 then (some ((⟨0, []⟩ : TNumberedPacket), false)) else (Option.bind (sRadioKey a0 a2) fun r3 => Option.bind (sUnprotect r3 1 0 a3.Message) fun r4 => some ((⟨r4.2.1, r4.1⟩ : TNumberedPacket), r4.2.2))
theorem sOpenRadio_c {a0 : Int} {a1 : Int} {a2 : Int} {a3 : TRadioPacket} {r : TNumberedPacket × Bool} (H : sOpenRadio a0 a1 a2 a3 = some r) : Fn Tryz.prog 65 [aI a0, aI a1, aI a2, .agg (eTRadioPacket a3)] [.agg [.d (.i .i64 r.1.Seq), .d (.l (r.1.Data.map eU8))], .c (.d (.b r.2))] := by
  refine fn_in Tryz.func65 rfl (by kernel_rfl) Tryz.ntmps65 rfl rfl rfl ?_
  refine wkd ?_
  obtain ⟨v1, Hj, H⟩ := ob H
  refine awr_join ⟨[(0, tI a0), (2, tI a2), (7, .v (.c (.p 0 0))), (8, .v (.c (.p 1 0))), (28, tB v1)], [(0, .var 118 [.d false (.i .i64 a3.Generation), .d false (.i .i64 a3.Epoch), .d false (.i .i64 a3.Message.Direction), .d false (.i .i64 a3.Message.Count), .d false (.l (a3.Message.Data.map eU8)), .d false (.i .i64 a3.Message.MAC)]), (1, .var 136 [.d false (.i .i64 0), .nil])], 2⟩ ?_ ?_
  · have H := Hj
    refine wkd ?_
    refine g2 rfl rfl rfl (fun h => ?_) (fun h => ?_)
    · have H := bt h H
      refine wkd ?_
      cases H
      exact weak_of ⟨rfl, rfl, rfl, rfl, rfl, rfl, rfl, rfl, rfl, rfl, trivial⟩ ⟨rfl, ⟨rfl, rfl⟩, rfl, ⟨rfl, rfl⟩, trivial⟩
    · have H := bf h H
      refine wkd ?_
      refine g2 rfl rfl rfl (fun h => ?_) (fun h => ?_)
      · have H := bt h H
        refine wkd ?_
        cases H
        exact weak_of ⟨rfl, rfl, rfl, rfl, rfl, rfl, rfl, rfl, rfl, rfl, trivial⟩ ⟨rfl, ⟨rfl, rfl⟩, rfl, ⟨rfl, rfl⟩, trivial⟩
      · have H := bf h H
        refine wkd ?_
        obtain ⟨r2, hr2, H⟩ := ob H
        refine awr_ng rfl rfl rfl rfl (ca rfl rfl rfl (sVerifyRadio_c hr2) trivial rfl rfl rfl rfl) ?_
        refine wkd ?_
        cases H
        exact weak_of ⟨rfl, rfl, rfl, rfl, rfl, rfl, rfl, rfl, rfl, rfl, trivial⟩ ⟨rfl, ⟨rfl, rfl⟩, rfl, ⟨rfl, rfl⟩, trivial⟩
  refine wkd ?_
  refine awc_cond rfl (fun h => ?_) (fun h => ?_)
  · have H := bt h H
    refine wkd ?_
    cases H
    refine clo_p (weak_nlv (o := 1) rfl) ?_
    exact fin_ret (.cons (.cell rfl rfl rfl) (.cons (.tmp rfl) .nil)) rfl rfl rfl
  · have H := bf h H
    refine wkd ?_
    obtain ⟨r3, hr3, H⟩ := ob H
    refine dr_n rfl (ca rfl rfl rfl (sRadioKey_c hr3) trivial rfl rfl rfl rfl) ?_
    refine wkd ?_
    obtain ⟨r4, hr4, H⟩ := ob H
    refine dr_n rfl (ca rfl rfl rfl (sUnprotect_c hr4) trivial rfl rfl rfl rfl) ?_
    refine wkd ?_
    cases H
    refine clo_p (weak_frz (o := 2) rfl rfl) ?_
    refine clo_p (weak_castv (o := 1) rfl rfl ⟨by first | rfl | simp, trivial⟩) ?_
    exact fin_ret (.cons (.cell rfl rfl rfl) (.cons (.tmp rfl) .nil)) rfl rfl rfl
def sEavesdrop (a0 : TNetwork) (a1 : List TLeakedKey) (a2 : Int) : Option (List Int × Bool) :=
  Option.bind (sl1In a2 0 (WR (((a0.Flights.length : Nat) : Int) - 1))) fun r1 => bif !r1 then (some (([] : List Int), false)) else (Option.bind (ix a0.Flights a2) fun x2 => Option.bind (sl35Readable a1 x2) fun r3 => Option.bind (bif !r3 then (some true) else (Option.bind (sl1In x2.Device 0 (WR (((a0.Sessions.length : Nat) : Int) - 1))) fun r5 => some (!r5))) fun (v4 : Bool) => bif v4 then (some (([] : List Int), false)) else (Option.bind (ix a0.Sessions x2.Device) fun x6 => Option.bind (sOpenRadio x6.RootKey x6.Generation x2.Radio.Epoch x2.Radio) fun r7 => bif !r7.2 then (some (([] : List Int), false)) else (some (r7.1.Data, true))))
theorem sEavesdrop_c {a0 : TNetwork} {a1 : List TLeakedKey} {a2 : Int} {r : List Int × Bool} (H : sEavesdrop a0 a1 a2 = some r) : Fn Tryz.prog 15 [.agg (eTNetwork a0), aL (a1.map eTLeakedKey), aI a2] [.c (.d (.l (r.1.map eU8))), .c (.d (.b r.2))] := by
  refine fn_in Tryz.func15 rfl (by kernel_rfl) Tryz.ntmps15 rfl rfl rfl ?_
  refine wk ?_
  obtain ⟨r1, hr1, H⟩ := ob H
  refine awr_n rfl (ca rfl rfl rfl (sl1In_c hr1) trivial rfl rfl rfl rfl) ?_
  refine wk ?_
  refine awc_cond rfl (fun h => ?_) (fun h => ?_)
  · have H := bt h H
    refine wk ?_
    cases H
    refine clo_p (weak_frz (o := 1) rfl rfl) ?_
    refine clo_p (weak_cast (k := 6) rfl rfl ⟨by first | rfl | simp, trivial⟩) ?_
    exact fin_ret (.cons (.tmp rfl) (.cons (.tmp rfl) .nil)) rfl rfl rfl
  · have H := bf h H
    refine wk ?_
    obtain ⟨x2, hx2, H⟩ := ob H
    refine awr_n rfl (xdT (enc := eTFlight) hx2 (fun _ => rfl) rfl rfl rfl) ?_
    refine wk ?_
    obtain ⟨r3, hr3, H⟩ := ob H
    refine awr_n rfl (ca rfl rfl rfl (sl35Readable_c hr3) trivial rfl rfl rfl rfl) ?_
    refine wk ?_
    obtain ⟨v4, Hj, H⟩ := ob H
    refine awr_join ⟨[(3, .v (.c (.p 0 0))), (8, .v (.c (.p 1 0))), (38, tB v4)], [(0, .var 40 [.d false (.l (a0.Map.Cells.map eTCell)), .d false (.l (a0.Devices.map eTDevice)), .d false (.l (a0.Sessions.map eTSession)), .d false (.l (a0.Accounts.map eTAccount)), .d false (.l (a0.Flights.map eTFlight)), .d false (.i .i64 a0.DownCells), .d false (.i .i64 a0.Core.Size), .d false (.i .i64 a0.Core.UpMask), .d false (.i .i64 a0.Now), .d false (.i .i64 a0.Lost)]), (1, .var 120 [.d false (.i .i64 x2.Device), .d false (.b x2.Uplink), .d false (.b x2.IsRadio), .d false (.i .i64 x2.Cell), .d false (.i .i64 x2.Signal.Kind), .d false (.i .i64 x2.Signal.Cell), .d false (.i .i64 x2.Signal.Generation), .d false (.i .i64 x2.Signal.Epoch), .d false (.i .i64 x2.Signal.Number), .d false (.i .i64 x2.Signal.Vector.Rand), .d false (.i .i64 x2.Signal.Vector.Autn), .d false (.i .i64 x2.Signal.Vector.MAC), .d false (.i .i64 x2.Signal.Vector.Res), .d false (.i .i64 x2.Signal.Vector.Key), .d false (.i .i64 x2.Signal.MAC), .d false (.i .i64 x2.Radio.Generation), .d false (.i .i64 x2.Radio.Epoch), .d false (.i .i64 x2.Radio.Message.Direction), .d false (.i .i64 x2.Radio.Message.Count), .d false (.l (x2.Radio.Message.Data.map eU8)), .d false (.i .i64 x2.Radio.Message.MAC)])], 2⟩ ?_ ?_
    · have H := Hj
      refine wk ?_
      refine g2 rfl rfl rfl (fun h => ?_) (fun h => ?_)
      · have H := bt h H
        refine wk ?_
        cases H
        exact weak_of ⟨rfl, rfl, rfl, rfl, rfl, rfl, trivial⟩ ⟨rfl, ⟨rfl, rfl⟩, rfl, ⟨rfl, rfl⟩, trivial⟩
      · have H := bf h H
        refine wk ?_
        obtain ⟨r5, hr5, H⟩ := ob H
        refine awr_ng rfl rfl rfl rfl (ca rfl rfl rfl (sl1In_c hr5) trivial rfl rfl rfl rfl) ?_
        refine wk ?_
        cases H
        exact weak_of ⟨rfl, rfl, rfl, rfl, rfl, rfl, trivial⟩ ⟨rfl, ⟨rfl, rfl⟩, rfl, ⟨rfl, rfl⟩, trivial⟩
    refine wk ?_
    refine awc_cond rfl (fun h => ?_) (fun h => ?_)
    · have H := bt h H
      refine wk ?_
      cases H
      refine clo_p (weak_frz (o := 2) rfl rfl) ?_
      refine clo_p (weak_cast (k := 6) rfl rfl ⟨by first | rfl | simp, trivial⟩) ?_
      exact fin_ret (.cons (.tmp rfl) (.cons (.tmp rfl) .nil)) rfl rfl rfl
    · have H := bf h H
      refine wk ?_
      obtain ⟨x6, hx6, H⟩ := ob H
      refine awr_n rfl (xdT (enc := eTSession) hx6 (fun _ => rfl) rfl rfl rfl) ?_
      refine wk ?_
      obtain ⟨r7, hr7, H⟩ := ob H
      refine awr_n rfl (ca rfl rfl rfl (sOpenRadio_c hr7) trivial rfl rfl rfl rfl) ?_
      refine wk ?_
      refine awc_cond rfl (fun h => ?_) (fun h => ?_)
      · have H := bt h H
        refine wk ?_
        cases H
        refine clo_p (weak_frz (o := 4) rfl rfl) ?_
        refine clo_p (weak_cast (k := 6) rfl rfl ⟨by first | rfl | simp, trivial⟩) ?_
        exact fin_ret (.cons (.tmp rfl) (.cons (.tmp rfl) .nil)) rfl rfl rfl
      · have H := bf h H
        refine wk ?_
        cases H
        exact fin_ret (.cons (.tmp rfl) (.cons (.tmp rfl) .nil)) rfl rfl rfl
end Go.AM
