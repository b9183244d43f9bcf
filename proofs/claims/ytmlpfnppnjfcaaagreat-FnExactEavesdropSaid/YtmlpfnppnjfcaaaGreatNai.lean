/-
  Own text: a part of the abstract machine for this seat (Nai). No statement is proved here.
-/
import Derived.Test.YtmlpfnppnjfcaaaGreatNag
set_option linter.unusedVariables false
namespace Go.AM
open Go.Proofs
attribute [local irreducible] AWN NS AWO AWR AWC DR Weak iterQ
set_option maxRecDepth 100000
set_option maxHeartbeats 4000000
def iInRange (a0 : Int) (a1 : Int) (a2 : Int) : Option Bool :=
  Option.bind (bif leB a1 a0 then (some (leB a0 a2)) else (some false)) fun (v1 : Bool) => some v1
theorem iInRange_c {a0 : Int} {a1 : Int} {a2 : Int} {r : Bool} (H : iInRange a0 a1 a2 = some r) : Fn Tryz.prog 52 [aI a0, aI a1, aI a2] [.c (.d (.b r))] := by
  refine fn_in Tryz.func52 rfl (by kernel_rfl) Tryz.ntmps52 rfl rfl rfl ?_
  refine wk ?_
  obtain ⟨v1, Hj, H⟩ := ob H
  refine awr_join ⟨[(6, tB v1)], [], 0⟩ ?_ ?_
  · have H := Hj
    refine wk ?_
    refine g2 rfl rfl rfl (fun h => ?_) (fun h => ?_)
    · have H := bt h H
      refine wk ?_
      cases H
      exact weak_of ⟨rfl, rfl, trivial⟩ trivial
    · have H := bf h H
      refine wk ?_
      cases H
      exact weak_of ⟨rfl, rfl, trivial⟩ trivial
  refine wk ?_
  cases H
  exact fin_ret (.cons (.tmp rfl) .nil) rfl rfl rfl
def iEqualInts (a0 : List Int) (a1 : List Int) : Option Bool :=
  Option.bind (gslices_Equal_int_int a0 a1) fun r1 => some r1
theorem iEqualInts_c {a0 : List Int} {a1 : List Int} {r : Bool} (H : iEqualInts a0 a1 = some r) : Fn Tryz.prog 244 [aL (a0.map eI), aL (a1.map eI)] [.c (.d (.b r))] := by
  refine fn_in Tryz.func244 rfl (by kernel_rfl) Tryz.ntmps244 rfl rfl rfl ?_
  refine wk ?_
  obtain ⟨r1, hr1, H⟩ := ob H
  refine awr_n rfl (ca rfl rfl rfl (gslices_Equal_int_int_c hr1) trivial rfl rfl rfl rfl) ?_
  refine wk ?_
  cases H
  exact fin_ret (.cons (.tmp rfl) .nil) rfl rfl rfl
def iIsPrefixPath (a0 : TKeyPath) (a1 : TKeyPath) : Option Bool :=
  Option.bind (bif leB ((a0.Steps.length : Nat) : Int) ((a1.Steps.length : Nat) : Int) then (bif slOk a1.Steps 0 ((a0.Steps.length : Nat) : Int) then (Option.bind (iEqualInts a0.Steps (a1.Steps.take (((a0.Steps.length : Nat) : Int)).toNat)) fun r2 => some r2) else none) else (some false)) fun (v1 : Bool) => some v1
theorem iIsPrefixPath_c {a0 : TKeyPath} {a1 : TKeyPath} {r : Bool} (H : iIsPrefixPath a0 a1 = some r) : Fn Tryz.prog 203 [.agg (eTKeyPath a0), .agg (eTKeyPath a1)] [.c (.d (.b r))] := by
  refine fn_in Tryz.func203 rfl (by kernel_rfl) Tryz.ntmps203 rfl rfl rfl ?_
  refine wkd ?_
  obtain ⟨v1, Hj, H⟩ := ob H
  refine dr_join ⟨[(4, tB v1)], [], 0⟩ ?_ ?_
  · have H := Hj
    refine wkd ?_
    refine dg2 rfl rfl rfl (fun h => ?_) (fun h => ?_)
    · have H := bt h H
      refine wkd ?_
      obtain ⟨h, H⟩ := rq H
      refine dr_ng rfl rfl rfl rfl (cdhT (enc := eI) h (fun _ => rfl) rfl rfl rfl) ?_
      refine wkd ?_
      obtain ⟨r2, hr2, H⟩ := ob H
      refine dr_ng rfl rfl rfl rfl (ca rfl rfl rfl (iEqualInts_c hr2) trivial rfl rfl rfl rfl) ?_
      refine wkd ?_
      cases H
      exact weak_of ⟨rfl, rfl, trivial⟩ trivial
    · have H := bf h H
      refine wkd ?_
      cases H
      exact weak_of ⟨rfl, rfl, trivial⟩ trivial
  refine wkd ?_
  cases H
  exact fin_ret (.cons (.tmp rfl) .nil) rfl rfl rfl
def iExposes_L1 (a0 : List TLeakedKey) (a1 : Int) (a2 : TKeyPath) : Int → Option (Step (Int) (Bool))
  | v1 => bif ltB v1 ((a0.length : Nat) : Int) then (Option.bind (ix a0 v1) fun x2 => Option.bind (bif eqB x2.Generation a1 then (Option.bind (iIsPrefixPath x2.Path a2) fun r4 => some r4) else (some false)) fun (v3 : Bool) => bif v3 then (dn (some true)) else (some (.next (WR (v1 + 1))))) else (dn (some false))
def iExposes (a0 : List TLeakedKey) (a1 : Int) (a2 : TKeyPath) : Option Bool :=
  iter (iExposes_L1 a0 a1 a2) FU 0
theorem iExposes_c {a0 : List TLeakedKey} {a1 : Int} {a2 : TKeyPath} {r : Bool} (H : iExposes a0 a1 a2 = some r) : Fn Tryz.prog 134 [aL (a0.map eTLeakedKey), aI a1, .agg (eTKeyPath a2)] [.c (.d (.b r))] := by
  refine fn_in Tryz.func134 rfl (by kernel_rfl) Tryz.ntmps134 rfl rfl rfl ?_
  refine wk ?_
  refine awc_iter (fun (q : Int) => ⟨[(1, tI a1), (5, .v (.c (.p 0 0))), (9, .v (.c (.d false (.l (a0.map eTLeakedKey))))), (10, tI ((a0.length : Nat) : Int)), (11, tI q)], [(0, .var 145 [.d false (.l (a2.Steps.map eI))])], 1⟩) H (weak_of ⟨rfl, rfl, rfl, rfl, rfl, rfl, rfl, rfl, rfl, rfl, trivial⟩ ⟨rfl, ⟨rfl, rfl⟩, trivial⟩) ?_
  rintro v1 o H
  try dsimp only
  refine wk ?_
  refine awc_cond rfl (fun h => ?_) (fun h => ?_)
  · have H := bt h H
    refine wk ?_
    obtain ⟨x2, hx2, H⟩ := ob H
    refine awr_n rfl (xdT (enc := eTLeakedKey) hx2 (fun _ => rfl) rfl rfl rfl) ?_
    refine wk ?_
    obtain ⟨v3, Hj, H⟩ := ob H
    refine awr_join ⟨[(1, tI a1), (5, .v (.c (.p 0 0))), (9, .v (.c (.d false (.l (a0.map eTLeakedKey))))), (10, tI ((a0.length : Nat) : Int)), (11, tI v1), (24, tB v3)], [(0, .var 145 [.d false (.l (a2.Steps.map eI))])], 1⟩ ?_ ?_
    · have H := Hj
      refine wk ?_
      refine g2 rfl rfl rfl (fun h => ?_) (fun h => ?_)
      · have H := bt h H
        refine wk ?_
        obtain ⟨r4, hr4, H⟩ := ob H
        refine awr_ng rfl rfl rfl rfl (ca rfl rfl rfl (iIsPrefixPath_c hr4) trivial rfl rfl rfl rfl) ?_
        refine wk ?_
        cases H
        exact weak_of ⟨rfl, rfl, rfl, rfl, rfl, rfl, rfl, rfl, rfl, rfl, rfl, rfl, trivial⟩ ⟨rfl, ⟨rfl, rfl⟩, trivial⟩
      · have H := bf h H
        refine wk ?_
        cases H
        exact weak_of ⟨rfl, rfl, rfl, rfl, rfl, rfl, rfl, rfl, rfl, rfl, rfl, rfl, trivial⟩ ⟨rfl, ⟨rfl, rfl⟩, trivial⟩
    refine wk ?_
    refine awc_cond rfl (fun h => ?_) (fun h => ?_)
    · have H := bt h H
      refine wk ?_
      obtain ⟨r0, Hd, rfl⟩ := dnE H
      refine iq_r (fun hq => ?_)
      have H := Hd.trans (congrArg some hq)
      refine wk ?_
      cases H
      exact fin_ret (.cons (.tmp rfl) .nil) rfl rfl rfl
    · have H := bf h H
      refine wk ?_
      cases H
      refine iq_n ?_
      exact weak_of ⟨rfl, rfl, rfl, rfl, rfl, rfl, rfl, rfl, rfl, rfl, trivial⟩ ⟨rfl, ⟨rfl, rfl⟩, trivial⟩
  · have H := bf h H
    refine wk ?_
    obtain ⟨r0, Hd, rfl⟩ := dnE H
    refine iq_e (fun hq => ?_)
    have H := Hd.trans (congrArg some hq)
    refine wk ?_
    cases H
    exact fin_ret (.cons (.tmp rfl) .nil) rfl rfl rfl
def iRadioKeyPath (a0 : Int) : Option TKeyPath :=
  some (⟨[1, 3, a0]⟩ : TKeyPath)
theorem iRadioKeyPath_c {a0 : Int} {r : TKeyPath} (H : iRadioKeyPath a0 = some r) : Fn Tryz.prog 135 [aI a0] [.agg [.own 3 1 (r.Steps.map eI) r.Steps.length]] := by
  refine fn_in Tryz.func135 rfl (by kernel_rfl) Tryz.ntmps135 rfl rfl rfl ?_
  refine wk ?_
  cases H
  exact fin_ret (.cons (.cell rfl rfl rfl) .nil) rfl rfl (by first | rfl | simp)
def iisReadable (a0 : List TLeakedKey) (a1 : TRadioPacket) : Option Bool :=
  Option.bind (iRadioKeyPath a1.Epoch) fun r1 => Option.bind (iExposes a0 a1.Generation r1) fun r2 => some r2
theorem iisReadable_c {a0 : List TLeakedKey} {a1 : TRadioPacket} {r : Bool} (H : iisReadable a0 a1 = some r) : Fn Tryz.prog 73 [aL (a0.map eTLeakedKey), .agg (eTRadioPacket a1)] [.c (.d (.b r))] := by
  refine fn_in Tryz.func73 rfl (by kernel_rfl) Tryz.ntmps73 rfl rfl rfl ?_
  refine wkd ?_
  obtain ⟨r1, hr1, H⟩ := ob H
  refine dr_n rfl (ca rfl rfl rfl (iRadioKeyPath_c hr1) trivial rfl rfl rfl rfl) ?_
  refine wkd ?_
  obtain ⟨r2, hr2, H⟩ := ob H
  refine dr_n rfl (ca rfl rfl rfl (iExposes_c hr2) ⟨by first | rfl | exact lm _, trivial⟩ rfl rfl rfl rfl) ?_
  refine wkd ?_
  cases H
  exact fin_ret (.cons (.tmp rfl) .nil) rfl rfl rfl
def iMod (a0 : Int) (a1 : Int) : Option Int :=
  Option.bind (iInRange a1 1 1000000000000) fun r1 => bif !r1 then (some 0) else (bif !eqB a1 0 then (Option.bind (bif ltB (Int.tmod a0 a1) 0 then (some (WR ((Int.tmod a0 a1) + a1))) else (some (Int.tmod a0 a1))) fun (v2 : Int) => some v2) else none)
theorem iMod_c {a0 : Int} {a1 : Int} {r : Int} (H : iMod a0 a1 = some r) : Fn Tryz.prog 264 [aI a0, aI a1] [.c (.d (.i .i64 r))] := by
  refine fn_in Tryz.func264 rfl (by kernel_rfl) Tryz.ntmps264 rfl rfl rfl ?_
  refine wk ?_
  obtain ⟨r1, hr1, H⟩ := ob H
  refine awr_n rfl (ca rfl rfl rfl (iInRange_c hr1) trivial rfl rfl rfl rfl) ?_
  refine wk ?_
  refine awc_cond rfl (fun h => ?_) (fun h => ?_)
  · have H := bt h H
    refine wk ?_
    cases H
    exact fin_ret (.cons (.tmp rfl) .nil) rfl rfl rfl
  · have H := bf h H
    refine wk ?_
    obtain ⟨h, H⟩ := rq H
    refine awr_n rfl (ir rfl rfl rfl (ne0 h)) ?_
    refine wk ?_
    obtain ⟨v2, Hj, H⟩ := ob H
    refine awc_join ⟨[(5, tI v2)], [], 0⟩ ?_ ?_
    · have H := Hj
      refine wk ?_
      refine awc_cond rfl (fun h => ?_) (fun h => ?_)
      · have H := bt h H
        refine wk ?_
        cases H
        exact weak_of ⟨rfl, rfl, trivial⟩ trivial
      · have H := bf h H
        refine wk ?_
        cases H
        exact weak_of ⟨rfl, rfl, trivial⟩ trivial
    refine wk ?_
    cases H
    exact fin_ret (.cons (.tmp rfl) .nil) rfl rfl rfl
def ihashStep (a0 : Int) (a1 : Int) : Option Int :=
  Option.bind (iMod a1 2147483647) fun r1 => some (Int.tmod (WR ((WR ((WR (a0 * 1000003)) + r1)) + 13)) 2147483647)
theorem ihashStep_c {a0 : Int} {a1 : Int} {r : Int} (H : ihashStep a0 a1 = some r) : Fn Tryz.prog 262 [aI a0, aI a1] [.c (.d (.i .i64 r))] := by
  refine fn_in Tryz.func262 rfl (by kernel_rfl) Tryz.ntmps262 rfl rfl rfl ?_
  refine wk ?_
  obtain ⟨r1, hr1, H⟩ := ob H
  refine awr_n rfl (ca rfl rfl rfl (iMod_c hr1) trivial rfl rfl rfl rfl) ?_
  refine wk ?_
  refine awr_n rfl (ir rfl rfl rfl (by decide)) ?_
  refine wk ?_
  cases H
  exact fin_ret (.cons (.tmp rfl) .nil) rfl rfl rfl
def iKeyedHash_L1 (a1 : List Int) : (Int × Int) → Option (Step (Int × Int) (Int))
  | (v2, v3) => bif ltB v3 ((a1.length : Nat) : Int) then (Option.bind (ix a1 v3) fun x7 => Option.bind (ihashStep v2 x7) fun r8 => some (.next (r8, WR (v3 + 1)))) else (some (.done v2))
def iKeyedHash (a0 : Int) (a1 : List Int) : Option Int :=
  Option.bind (ihashStep 11 a0) fun r1 => Option.bind (iter (iKeyedHash_L1 a1) FU (r1, 0)) fun (v6 : Int) => Option.bind (ihashStep v6 a0) fun r9 => some r9
theorem iKeyedHash_c {a0 : Int} {a1 : List Int} {r : Int} (H : iKeyedHash a0 a1 = some r) : Fn Tryz.prog 247 [aI a0, aL (a1.map eI)] [.c (.d (.i .i64 r))] := by
  refine fn_in Tryz.func247 rfl (by kernel_rfl) Tryz.ntmps247 rfl rfl rfl ?_
  refine wk ?_
  obtain ⟨r1, hr1, H⟩ := ob H
  refine awr_n rfl (ca rfl rfl rfl (ihashStep_c hr1) trivial rfl rfl rfl rfl) ?_
  refine wk ?_
  obtain ⟨v6, Hj, H⟩ := ob H
  refine awc_jblk ⟨[(0, tI a0), (5, tI v6)], [], 0⟩ ?_ ?_
  · refine wk ?_
    refine awc_iter (fun (q : Int × Int) => ⟨[(0, tI a0), (5, tI q.1), (10, .v (.c (.d false (.l (a1.map eI))))), (11, tI ((a1.length : Nat) : Int)), (12, tI q.2)], [], 0⟩) Hj (weak_of ⟨rfl, rfl, rfl, rfl, rfl, rfl, rfl, rfl, rfl, rfl, trivial⟩ trivial) ?_
    rintro ⟨v2, v3⟩ o H
    try dsimp only
    refine wk ?_
    refine awc_cond rfl (fun h => ?_) (fun h => ?_)
    · have H := bt h H
      refine wk ?_
      obtain ⟨x7, hx7, H⟩ := ob H
      refine awr_n rfl (xdT (enc := eI) hx7 (fun _ => rfl) rfl rfl rfl) ?_
      refine wk ?_
      obtain ⟨r8, hr8, H⟩ := ob H
      refine awr_n rfl (ca rfl rfl rfl (ihashStep_c hr8) trivial rfl rfl rfl rfl) ?_
      refine wk ?_
      cases H
      refine iq_n ?_
      exact weak_of ⟨rfl, rfl, rfl, rfl, rfl, rfl, rfl, rfl, rfl, rfl, trivial⟩ trivial
    · have H := bf h H
      refine wk ?_
      cases H
      refine iq_e (fun hq => ?_)
      cases hq
      refine wk ?_
      exact weak_of ⟨rfl, rfl, rfl, rfl, trivial⟩ trivial
  refine wk ?_
  obtain ⟨r9, hr9, H⟩ := ob H
  refine awr_n rfl (ca rfl rfl rfl (ihashStep_c hr9) trivial rfl rfl rfl rfl) ?_
  refine wk ?_
  cases H
  exact fin_ret (.cons (.tmp rfl) .nil) rfl rfl rfl
def iDeriveKey (a0 : Int) (a1 : Int) : Option Int :=
  Option.bind (iKeyedHash a0 [9, a1]) fun r1 => bif eqB r1 0 then (some 1) else (some r1)
theorem iDeriveKey_c {a0 : Int} {a1 : Int} {r : Int} (H : iDeriveKey a0 a1 = some r) : Fn Tryz.prog 207 [aI a0, aI a1] [.c (.d (.i .i64 r))] := by
  refine fn_in Tryz.func207 rfl (by kernel_rfl) Tryz.ntmps207 rfl rfl rfl ?_
  refine wk ?_
  obtain ⟨r1, hr1, H⟩ := ob H
  refine awr_n rfl (ca rfl rfl rfl (iKeyedHash_c hr1) ⟨by first | rfl | exact lm _, trivial⟩ rfl rfl rfl rfl) ?_
  refine wk ?_
  refine awc_cond rfl (fun h => ?_) (fun h => ?_)
  · have H := bt h H
    refine wk ?_
    cases H
    exact fin_ret (.cons (.tmp rfl) .nil) rfl rfl rfl
  · have H := bf h H
    refine wk ?_
    cases H
    exact fin_ret (.cons (.tmp rfl) .nil) rfl rfl rfl
def ideriveSteps_L1 (a1 : List Int) : (Int × Int) → Option (Step (Int × Int) (Int))
  | (v1, v2) => bif ltB v2 ((a1.length : Nat) : Int) then (Option.bind (ix a1 v2) fun x6 => Option.bind (iDeriveKey v1 x6) fun r7 => some (.next (r7, WR (v2 + 1)))) else (some (.done v1))
def ideriveSteps (a0 : Int) (a1 : List Int) : Option Int :=
  Option.bind (iter (ideriveSteps_L1 a1) FU (a0, 0)) fun (v5 : Int) => some v5
theorem ideriveSteps_c {a0 : Int} {a1 : List Int} {r : Int} (H : ideriveSteps a0 a1 = some r) : Fn Tryz.prog 248 [aI a0, aL (a1.map eI)] [.c (.d (.i .i64 r))] := by
  refine fn_in Tryz.func248 rfl (by kernel_rfl) Tryz.ntmps248 rfl rfl rfl ?_
  refine wk ?_
  obtain ⟨v5, Hj, H⟩ := ob H
  refine awc_jblk ⟨[(0, tI v5)], [], 0⟩ ?_ ?_
  · refine wk ?_
    refine awc_iter (fun (q : Int × Int) => ⟨[(0, tI q.1), (7, .v (.c (.d false (.l (a1.map eI))))), (8, tI ((a1.length : Nat) : Int)), (9, tI q.2)], [], 0⟩) Hj (weak_of ⟨rfl, rfl, rfl, rfl, rfl, rfl, rfl, rfl, trivial⟩ trivial) ?_
    rintro ⟨v1, v2⟩ o H
    try dsimp only
    refine wk ?_
    refine awc_cond rfl (fun h => ?_) (fun h => ?_)
    · have H := bt h H
      refine wk ?_
      obtain ⟨x6, hx6, H⟩ := ob H
      refine awr_n rfl (xdT (enc := eI) hx6 (fun _ => rfl) rfl rfl rfl) ?_
      refine wk ?_
      obtain ⟨r7, hr7, H⟩ := ob H
      refine awr_n rfl (ca rfl rfl rfl (iDeriveKey_c hr7) trivial rfl rfl rfl rfl) ?_
      refine wk ?_
      cases H
      refine iq_n ?_
      exact weak_of ⟨rfl, rfl, rfl, rfl, rfl, rfl, rfl, rfl, trivial⟩ trivial
    · have H := bf h H
      refine wk ?_
      cases H
      refine iq_e (fun hq => ?_)
      cases hq
      refine wk ?_
      exact weak_of ⟨rfl, rfl, trivial⟩ trivial
  refine wk ?_
  cases H
  exact fin_ret (.cons (.tmp rfl) .nil) rfl rfl rfl
def iKeyForPath (a0 : Int) (a1 : TKeyPath) : Option Int :=
  Option.bind (ideriveSteps a0 a1.Steps) fun r1 => some r1
theorem iKeyForPath_c {a0 : Int} {a1 : TKeyPath} {r : Int} (H : iKeyForPath a0 a1 = some r) : Fn Tryz.prog 208 [aI a0, .agg (eTKeyPath a1)] [.c (.d (.i .i64 r))] := by
  refine fn_in Tryz.func208 rfl (by kernel_rfl) Tryz.ntmps208 rfl rfl rfl ?_
  refine wk ?_
  obtain ⟨r1, hr1, H⟩ := ob H
  refine awr_n rfl (ca rfl rfl rfl (ideriveSteps_c hr1) trivial rfl rfl rfl rfl) ?_
  refine wk ?_
  cases H
  exact fin_ret (.cons (.tmp rfl) .nil) rfl rfl rfl
def iRadioKey (a0 : Int) (a1 : Int) : Option Int :=
  Option.bind (iRadioKeyPath a1) fun r1 => Option.bind (iKeyForPath a0 r1) fun r2 => some r2
theorem iRadioKey_c {a0 : Int} {a1 : Int} {r : Int} (H : iRadioKey a0 a1 = some r) : Fn Tryz.prog 138 [aI a0, aI a1] [.c (.d (.i .i64 r))] := by
  refine fn_in Tryz.func138 rfl (by kernel_rfl) Tryz.ntmps138 rfl rfl rfl ?_
  refine wk ?_
  obtain ⟨r1, hr1, H⟩ := ob H
  refine awr_n rfl (ca rfl rfl rfl (iRadioKeyPath_c hr1) trivial rfl rfl rfl rfl) ?_
  refine wk ?_
  obtain ⟨r2, hr2, H⟩ := ob H
  refine awr_n rfl (ca rfl rfl rfl (iKeyForPath_c hr2) ⟨by first | rfl | exact lm _, trivial⟩ rfl rfl rfl rfl) ?_
  refine wk ?_
  cases H
  exact fin_ret (.cons (.tmp rfl) .nil) rfl rfl rfl
def iIsValidSecured (a0 : TSecuredMessage) : Option Bool :=
  Option.bind (bif eqB a0.Direction 0 then (Option.bind (iInRange a0.Count 1 100000) fun r2 => bif r2 then (bif leB ((a0.Data.length : Nat) : Int) 60 then (Option.bind (iInRange a0.MAC 0 2147483646) fun r3 => some r3) else (some false)) else (some false)) else (bif eqB a0.Direction 1 then (Option.bind (iInRange a0.Count 1 100000) fun r4 => bif r4 then (bif leB ((a0.Data.length : Nat) : Int) 60 then (Option.bind (iInRange a0.MAC 0 2147483646) fun r5 => some r5) else (some false)) else (some false)) else (some false))) fun (v1 : Bool) => some v1
theorem iIsValidSecured_c {a0 : TSecuredMessage} {r : Bool} (H : iIsValidSecured a0 = some r) : Fn Tryz.prog 204 [.agg (eTSecuredMessage a0)] [.c (.d (.b r))] := by
  refine fn_in Tryz.func204 rfl (by kernel_rfl) Tryz.ntmps204 rfl rfl rfl ?_
  refine wk ?_
  obtain ⟨v1, Hj, H⟩ := ob H
  refine awr_join ⟨[(2, tB v1)], [], 0⟩ ?_ ?_
  · have H := Hj
    refine wk ?_
    refine g2 rfl rfl rfl (fun h => ?_) (fun h => ?_)
    · have H := bt h H
      refine wk ?_
      obtain ⟨r2, hr2, H⟩ := ob H
      refine awr_ng rfl rfl rfl rfl (ca rfl rfl rfl (iInRange_c hr2) trivial rfl rfl rfl rfl) ?_
      refine wk ?_
      refine g2 rfl rfl rfl (fun h => ?_) (fun h => ?_)
      · have H := bt h H
        refine wk ?_
        refine g2 rfl rfl rfl (fun h => ?_) (fun h => ?_)
        · have H := bt h H
          refine wk ?_
          obtain ⟨r3, hr3, H⟩ := ob H
          refine awr_ng rfl rfl rfl rfl (ca rfl rfl rfl (iInRange_c hr3) trivial rfl rfl rfl rfl) ?_
          refine wk ?_
          cases H
          exact weak_of ⟨rfl, rfl, trivial⟩ trivial
        · have H := bf h H
          refine wk ?_
          cases H
          exact weak_of ⟨rfl, rfl, trivial⟩ trivial
      · have H := bf h H
        refine wk ?_
        cases H
        exact weak_of ⟨rfl, rfl, trivial⟩ trivial
    · have H := bf h H
      refine wk ?_
      refine g2 rfl rfl rfl (fun h => ?_) (fun h => ?_)
      · have H := bt h H
        refine wk ?_
        obtain ⟨r4, hr4, H⟩ := ob H
        refine awr_ng rfl rfl rfl rfl (ca rfl rfl rfl (iInRange_c hr4) trivial rfl rfl rfl rfl) ?_
        refine wk ?_
        refine g2 rfl rfl rfl (fun h => ?_) (fun h => ?_)
        · have H := bt h H
          refine wk ?_
          refine g2 rfl rfl rfl (fun h => ?_) (fun h => ?_)
          · have H := bt h H
            refine wk ?_
            obtain ⟨r5, hr5, H⟩ := ob H
            refine awr_ng rfl rfl rfl rfl (ca rfl rfl rfl (iInRange_c hr5) trivial rfl rfl rfl rfl) ?_
            refine wk ?_
            cases H
            exact weak_of ⟨rfl, rfl, trivial⟩ trivial
          · have H := bf h H
            refine wk ?_
            cases H
            exact weak_of ⟨rfl, rfl, trivial⟩ trivial
        · have H := bf h H
          refine wk ?_
          cases H
          exact weak_of ⟨rfl, rfl, trivial⟩ trivial
      · have H := bf h H
        refine wk ?_
        cases H
        exact weak_of ⟨rfl, rfl, trivial⟩ trivial
  refine wk ?_
  cases H
  exact fin_ret (.cons (.tmp rfl) .nil) rfl rfl rfl
def iBytesToInts_L1 (a0 : List Int) : (Int × List Int) → Option (Step (Int × List Int) (List Int))
  | (v1, v2) => bif ltB v1 ((a0.length : Nat) : Int) then (Option.bind (ix a0 v1) fun x5 => bif apOk 8 (v2 ++ [WR (x5)]).length then (some (.next (WR (v1 + 1), (v2 ++ [WR (x5)])))) else none) else (some (.done v2))
def iBytesToInts (a0 : List Int) : Option (List Int) :=
  bif mkOk 8 0 (WR (((a0.length : Nat) : Int) + 1)) then (bif apOk 8 ((List.replicate ((0 : Int)).toNat 0) ++ [((a0.length : Nat) : Int)]).length then (Option.bind (iter (iBytesToInts_L1 a0) FU (0, ((List.replicate ((0 : Int)).toNat 0) ++ [((a0.length : Nat) : Int)]))) fun (v4 : List Int) => some v4) else none) else none
theorem iBytesToInts_c {a0 : List Int} {r : List Int} (H : iBytesToInts a0 = some r) : Fn Tryz.prog 261 [aL (a0.map eU8)] [.c (.own 3 1 (r.map eI) r.length)] := by
  refine fn_in Tryz.func261 rfl (by kernel_rfl) Tryz.ntmps261 rfl rfl rfl ?_
  refine wk ?_
  obtain ⟨h, H⟩ := rq H
  refine awr_n rfl (mkT (enc := eI) (za := 0) h (by rfl) rfl rfl rfl rfl) ?_
  refine wk ?_
  obtain ⟨h, H⟩ := rq H
  refine awr_step rfl (apT (enc := eI) (ys := (List.replicate ((0 : Int)).toNat 0)) (zs := [((a0.length : Nat) : Int)]) h rfl (fun _ => rfl) (by first | rfl | simp) (.w rfl (by first | rfl | exact lm _ | simp)) rfl rfl rfl rfl rfl rfl rfl rfl) ?_
  refine wk ?_
  obtain ⟨v4, Hj, H⟩ := ob H
  refine awc_jblk ⟨[(3, .v (.c (.w 0 v4.length)))], [(0, .row 3 1 (v4.map eI) true true)], 1⟩ ?_ ?_
  · refine wk ?_
    refine awc_iter (fun (q : Int × List Int) => ⟨[(3, .v (.c (.w 0 q.2.length))), (15, .v (.c (.d false (.l (a0.map eU8))))), (16, tI ((a0.length : Nat) : Int)), (17, tI q.1)], [(0, .row 3 1 (q.2.map eI) true true)], 1⟩) Hj (weak_of ⟨wn rfl (by first | rfl | simp), rfl, rfl, rfl, rfl, rfl, rfl, rfl, trivial⟩ ⟨rfl, ⟨rfl, rfl⟩, trivial⟩) ?_
    rintro ⟨v1, v2⟩ o H
    try dsimp only
    refine wk ?_
    refine awc_cond rfl (fun h => ?_) (fun h => ?_)
    · have H := bt h H
      refine wk ?_
      obtain ⟨x5, hx5, H⟩ := ob H
      refine awr_n rfl (xdT (enc := eU8) hx5 (fun _ => rfl) rfl rfl rfl) ?_
      refine wk ?_
      obtain ⟨h, H⟩ := rq H
      refine awr_step rfl (apT (enc := eI) (ys := v2) (zs := [WR (x5)]) h rfl (fun _ => rfl) (by first | rfl | simp) (.w rfl (by first | rfl | exact lm _ | simp)) rfl rfl rfl rfl rfl rfl rfl rfl) ?_
      refine wk ?_
      cases H
      refine iq_n ?_
      exact weak_of ⟨wn rfl (by first | rfl | simp), rfl, rfl, rfl, rfl, rfl, rfl, rfl, trivial⟩ ⟨rfl, ⟨rfl, rfl⟩, trivial⟩
    · have H := bf h H
      refine wk ?_
      cases H
      refine iq_e (fun hq => ?_)
      cases hq
      refine wk ?_
      exact weak_of ⟨wn rfl (by first | rfl | simp), rfl, trivial⟩ ⟨rfl, ⟨rfl, rfl⟩, trivial⟩
  refine wk ?_
  cases H
  exact fin_ret (.cons (.tmp rfl) .nil) rfl rfl (by first | rfl | simp)
def isecuredMAC (a0 : Int) (a1 : Int) (a2 : Int) (a3 : List Int) : Option Int :=
  Option.bind (iBytesToInts a3) fun r1 => bif apOk 8 ([a1, a2] ++ r1).length then (Option.bind (iKeyedHash a0 ([a1, a2] ++ r1)) fun r2 => some r2) else none
theorem isecuredMAC_c {a0 : Int} {a1 : Int} {a2 : Int} {a3 : List Int} {r : Int} (H : isecuredMAC a0 a1 a2 a3 = some r) : Fn Tryz.prog 245 [aI a0, aI a1, aI a2, aL (a3.map eU8)] [.c (.d (.i .i64 r))] := by
  refine fn_in Tryz.func245 rfl (by kernel_rfl) Tryz.ntmps245 rfl rfl rfl ?_
  refine wk ?_
  obtain ⟨r1, hr1, H⟩ := ob H
  refine awr_n rfl (ca rfl rfl rfl (iBytesToInts_c hr1) trivial rfl rfl rfl rfl) ?_
  refine wk ?_
  obtain ⟨h, H⟩ := rq H
  refine awr_step rfl (apT (enc := eI) (ys := [a1, a2]) (zs := r1) h rfl (fun _ => rfl) (by first | rfl | simp) (.w rfl (by first | rfl | exact lm _ | simp)) rfl rfl rfl rfl rfl rfl rfl rfl) ?_
  refine wk ?_
  obtain ⟨r2, hr2, H⟩ := ob H
  refine awr_n rfl (ca rfl rfl rfl (iKeyedHash_c hr2) ⟨by first | rfl | exact lm _, trivial⟩ rfl rfl rfl rfl) ?_
  refine wk ?_
  cases H
  exact fin_ret (.cons (.tmp rfl) .nil) rfl rfl rfl
def iVerifyMAC (a0 : Int) (a1 : TSecuredMessage) : Option Bool :=
  Option.bind (isecuredMAC a0 a1.Direction a1.Count a1.Data) fun r1 => some (eqB a1.MAC r1)
theorem iVerifyMAC_c {a0 : Int} {a1 : TSecuredMessage} {r : Bool} (H : iVerifyMAC a0 a1 = some r) : Fn Tryz.prog 205 [aI a0, .agg (eTSecuredMessage a1)] [.c (.d (.b r))] := by
  refine fn_in Tryz.func205 rfl (by kernel_rfl) Tryz.ntmps205 rfl rfl rfl ?_
  refine wkd ?_
  obtain ⟨r1, hr1, H⟩ := ob H
  refine dr_n rfl (ca rfl rfl rfl (isecuredMAC_c hr1) trivial rfl rfl rfl rfl) ?_
  refine wkd ?_
  cases H
  exact fin_ret (.cons (.tmp rfl) .nil) rfl rfl rfl
def iVerifyRadio (a0 : Int) (a1 : TRadioPacket) : Option Bool :=
  Option.bind (iIsValidSecured a1.Message) fun r1 => Option.bind (bif r1 then (bif eqB a1.Message.Direction 1 then (Option.bind (iRadioKey a0 a1.Epoch) fun r3 => Option.bind (iVerifyMAC r3 a1.Message) fun r4 => some r4) else (some false)) else (some false)) fun (v2 : Bool) => some v2
theorem iVerifyRadio_c {a0 : Int} {a1 : TRadioPacket} {r : Bool} (H : iVerifyRadio a0 a1 = some r) : Fn Tryz.prog 136 [aI a0, .agg (eTRadioPacket a1)] [.c (.d (.b r))] := by
  refine fn_in Tryz.func136 rfl (by kernel_rfl) Tryz.ntmps136 rfl rfl rfl ?_
  refine wkd ?_
  obtain ⟨r1, hr1, H⟩ := ob H
  refine dr_n rfl (ca rfl rfl rfl (iIsValidSecured_c hr1) trivial rfl rfl rfl rfl) ?_
  refine wkd ?_
  obtain ⟨v2, Hj, H⟩ := ob H
  refine dr_join ⟨[(4, tB v2)], [], 0⟩ ?_ ?_
  · have H := Hj
    refine wkd ?_
    refine dg2 rfl rfl rfl (fun h => ?_) (fun h => ?_)
    · have H := bt h H
      refine wkd ?_
      refine dg2 rfl rfl rfl (fun h => ?_) (fun h => ?_)
      · have H := bt h H
        refine wkd ?_
        obtain ⟨r3, hr3, H⟩ := ob H
        refine dr_ng rfl rfl rfl rfl (ca rfl rfl rfl (iRadioKey_c hr3) trivial rfl rfl rfl rfl) ?_
        refine wkd ?_
        obtain ⟨r4, hr4, H⟩ := ob H
        refine dr_ng rfl rfl rfl rfl (ca rfl rfl rfl (iVerifyMAC_c hr4) trivial rfl rfl rfl rfl) ?_
        refine wkd ?_
        cases H
        exact weak_of ⟨rfl, rfl, trivial⟩ trivial
      · have H := bf h H
        refine wkd ?_
        cases H
        exact weak_of ⟨rfl, rfl, trivial⟩ trivial
    · have H := bf h H
      refine wkd ?_
      cases H
      exact weak_of ⟨rfl, rfl, trivial⟩ trivial
  refine wkd ?_
  cases H
  exact fin_ret (.cons (.tmp rfl) .nil) rfl rfl rfl
def icopyBytes (a0 : List Int) : Option (List Int) :=
  bif mkOk 1 ((a0.length : Nat) : Int) ((a0.length : Nat) : Int) then (some (cpL (List.replicate (((a0.length : Nat) : Int)).toNat 0) a0)) else none
theorem icopyBytes_c {a0 : List Int} {r : List Int} (H : icopyBytes a0 = some r) : Fn Tryz.prog 246 [aL (a0.map eU8)] [.c (.own 5 1 (r.map eU8) r.length)] := by
  refine fn_in Tryz.func246 rfl (by kernel_rfl) Tryz.ntmps246 rfl rfl rfl ?_
  refine wk ?_
  obtain ⟨h, H⟩ := rq H
  refine awr_n rfl (mkT (enc := eU8) (za := 0) h (by rfl) rfl rfl rfl rfl) ?_
  refine wk ?_
  refine awr_step rfl (cpT (enc := eU8) (ys := (List.replicate (((a0.length : Nat) : Int)).toNat 0)) (zs := a0) rfl (fun _ => rfl) (by first | rfl | simp) .d rfl rfl rfl rfl rfl) ?_
  refine awr_weak (weak_flat (enc := eU8) (o := 0) rfl (fun _ => rfl)) ?_
  refine wk ?_
  cases H
  exact fin_ret (.cons (.tmp rfl) .nil) rfl rfl (by first | rfl | simp)
def iDecrypt_L1 (a0 : Int) (r1 : List Int) : (Int × List Int) → Option (Step (Int × List Int) (List Int))
  | (v2, v3) => bif ltB v2 ((r1.length : Nat) : Int) then (Option.bind (ix v3 v2) fun x8 => Option.bind (iKeyedHash a0 [v2]) fun r9 => Option.bind (ix v3 v2) fun x10 => some (.next (WR (v2 + 1), (v3.set (v2).toNat (IntKind.u8.wrap (x8 - (IntKind.u8.wrap (Int.tmod r9 256)))))))) else (some (.done v3))
def iDecrypt (a0 : Int) (a1 : List Int) : Option (List Int) :=
  Option.bind (icopyBytes a1) fun r1 => Option.bind (iter (iDecrypt_L1 a0 r1) FU (0, r1)) fun (v7 : List Int) => some v7
theorem iDecrypt_c {a0 : Int} {a1 : List Int} {r : List Int} (H : iDecrypt a0 a1 = some r) : Fn Tryz.prog 206 [aI a0, aL (a1.map eU8)] [.c (.own 5 1 (r.map eU8) r.length)] := by
  refine fn_in Tryz.func206 rfl (by kernel_rfl) Tryz.ntmps206 rfl rfl rfl ?_
  refine wkz ?_
  obtain ⟨r1, hr1, H⟩ := ob H
  refine awr_n rfl (ca rfl rfl rfl (icopyBytes_c hr1) trivial rfl rfl rfl rfl) ?_
  refine wkz ?_
  obtain ⟨v7, Hj, H⟩ := ob H
  refine awc_jblk ⟨[(5, .v (.c (.w 0 v7.length)))], [(0, .row 5 1 (v7.map eU8) true true)], 1⟩ ?_ ?_
  · refine wkz ?_
    refine awc_iter (fun (q : Int × List Int) => ⟨[(0, tI a0), (5, .v (.c (.w 0 q.2.length))), (10, tI ((r1.length : Nat) : Int)), (11, tI q.1)], [(0, .row 5 1 (q.2.map eU8) true true)], 1⟩) Hj (weak_of ⟨rfl, rfl, wn rfl (by first | rfl | simp), rfl, rfl, rfl, rfl, rfl, trivial⟩ ⟨rfl, ⟨rfl, rfl⟩, trivial⟩) ?_
    rintro ⟨v2, v3⟩ o H
    try dsimp only
    refine wkz ?_
    refine awc_cond rfl (fun h => ?_) (fun h => ?_)
    · have H := bt h H
      refine wkz ?_
      refine awc_dz [0, 1, 2, 3, 4, 5, 6, 7, 8, 9, 10, 11, 12] Try.follows (by kernel_rfl) (by kernel_rfl) rfl ?_
      refine wkz ?_
      obtain ⟨x8, hx8, H⟩ := ob H
      refine dz_n rfl (xwT hx8 (by first | rfl | simp) rfl rfl rfl) ?_
      refine wkz ?_
      refine dz_n rfl (oe rfl rfl rfl (ix_map eU8 hx8) rfl) ?_
      refine wkz ?_
      obtain ⟨r9, hr9, H⟩ := ob H
      refine dz_n rfl (ca rfl rfl rfl (iKeyedHash_c hr9) ⟨by first | rfl | exact lm _, trivial⟩ rfl rfl rfl rfl) ?_
      refine wkz ?_
      refine dz_n rfl (ir rfl rfl rfl (by decide)) ?_
      refine wkz ?_
      obtain ⟨x10, hx10, H⟩ := ob H
      refine dz_n rfl (xwT hx10 (by first | rfl | simp) rfl rfl rfl) ?_
      refine wkz ?_
      refine dz_bar (by kernel_rfl) rfl (by kernel_rfl) weak_id (bo_n rfl (soT (enc := eU8) (a' := IntKind.u8.wrap (x8 - (IntKind.u8.wrap (Int.tmod r9 256)))) hx10 rfl rfl rfl rfl rfl rfl rfl)) weak_id rfl ?_
      refine wkz ?_
      cases H
      refine iq_n ?_
      exact weak_of ⟨rfl, rfl, wn rfl (by first | rfl | simp), rfl, rfl, rfl, rfl, rfl, trivial⟩ ⟨rfl, ⟨rfl, rfl⟩, trivial⟩
    · have H := bf h H
      refine wkz ?_
      cases H
      refine iq_e (fun hq => ?_)
      cases hq
      refine wkz ?_
      exact weak_of ⟨wn rfl (by first | rfl | simp), rfl, trivial⟩ ⟨rfl, ⟨rfl, rfl⟩, trivial⟩
  refine wkz ?_
  cases H
  exact fin_ret (.cons (.tmp rfl) .nil) rfl rfl (by first | rfl | simp)
def iopenSecured (a0 : Int) (a1 : TSecuredMessage) : Option (List Int) :=
  Option.bind (iDeriveKey a0 (WR ((WR (2 * a1.Count)) + a1.Direction))) fun r1 => Option.bind (iDecrypt r1 a1.Data) fun r2 => some r2
theorem iopenSecured_c {a0 : Int} {a1 : TSecuredMessage} {r : List Int} (H : iopenSecured a0 a1 = some r) : Fn Tryz.prog 137 [aI a0, .agg (eTSecuredMessage a1)] [.c (.own 5 1 (r.map eU8) r.length)] := by
  refine fn_in Tryz.func137 rfl (by kernel_rfl) Tryz.ntmps137 rfl rfl rfl ?_
  refine wkd ?_
  obtain ⟨r1, hr1, H⟩ := ob H
  refine dr_n rfl (ca rfl rfl rfl (iDeriveKey_c hr1) trivial rfl rfl rfl rfl) ?_
  refine wkd ?_
  obtain ⟨r2, hr2, H⟩ := ob H
  refine dr_n rfl (ca rfl rfl rfl (iDecrypt_c hr2) trivial rfl rfl rfl rfl) ?_
  refine wkd ?_
  cases H
  exact fin_ret (.cons (.tmp rfl) .nil) rfl rfl (by first | rfl | simp)
def iOpenRadio (a0 : Int) (a1 : Int) (a2 : Int) (a3 : TRadioPacket) : Option (TNumberedPacket × Bool) :=
  Option.bind (bif !eqB a3.Generation a1 then (some true) else (bif !eqB a3.Epoch a2 then (some true) else (Option.bind (iVerifyRadio a0 a3) fun r2 => some (!r2)))) fun (v1 : Bool) => bif v1 then (some ((⟨0, []⟩ : TNumberedPacket), false)) else (Option.bind (iRadioKey a0 a2) fun r3 => Option.bind (iopenSecured r3 a3.Message) fun r4 => some ((⟨a3.Message.Count, r4⟩ : TNumberedPacket), true))
theorem iOpenRadio_c1 {a0 : Int} {a1 : Int} {a2 : Int} {a3 : TRadioPacket} {r : TNumberedPacket × Bool} (H : iOpenRadio a0 a1 a2 a3 = some r) (hflag : r.2 = true) : Fn Tryz.prog 74 [aI a0, aI a1, aI a2, .agg (eTRadioPacket a3)] [.agg [.d (.i .i64 r.1.Seq), .own 5 1 (r.1.Data.map eU8) r.1.Data.length], .c (.d (.b r.2))] := by
  refine fn_in Tryz.func74 rfl (by kernel_rfl) Tryz.ntmps74 rfl rfl rfl ?_
  refine wkd ?_
  obtain ⟨v1, Hj, H⟩ := ob H
  refine awr_join ⟨[(0, tI a0), (2, tI a2), (7, .v (.c (.p 0 0))), (8, .v (.c (.p 1 0))), (26, tB v1)], [(0, .var 118 [.d false (.i .i64 a3.Generation), .d false (.i .i64 a3.Epoch), .d false (.i .i64 a3.Message.Direction), .d false (.i .i64 a3.Message.Count), .d false (.l (a3.Message.Data.map eU8)), .d false (.i .i64 a3.Message.MAC)]), (1, .var 136 [.d false (.i .i64 0), .nil])], 2⟩ ?_ ?_
  · have H := Hj
    refine wkd ?_
    refine g2 rfl rfl rfl (fun h => ?_) (fun h => ?_)
    · have H := bt h H
      refine wkd ?_
      cases H
      exact weak_of ⟨rfl, rfl, rfl, rfl, rfl, rfl, rfl, rfl, rfl, rfl, trivial⟩ ⟨rfl, ⟨rfl, rfl⟩, rfl, ⟨rfl, rfl⟩, trivial⟩
    · have H := bf h H
      refine wkd ?_
      refine g2 rfl rfl rfl (fun h => ?_) (fun h => ?_)
      · have H := bt h H
        refine wkd ?_
        cases H
        exact weak_of ⟨rfl, rfl, rfl, rfl, rfl, rfl, rfl, rfl, rfl, rfl, trivial⟩ ⟨rfl, ⟨rfl, rfl⟩, rfl, ⟨rfl, rfl⟩, trivial⟩
      · have H := bf h H
        refine wkd ?_
        obtain ⟨r2, hr2, H⟩ := ob H
        refine awr_ng rfl rfl rfl rfl (ca rfl rfl rfl (iVerifyRadio_c hr2) trivial rfl rfl rfl rfl) ?_
        refine wkd ?_
        cases H
        exact weak_of ⟨rfl, rfl, rfl, rfl, rfl, rfl, rfl, rfl, rfl, rfl, trivial⟩ ⟨rfl, ⟨rfl, rfl⟩, rfl, ⟨rfl, rfl⟩, trivial⟩
  refine wkd ?_
  refine awc_cond rfl (fun h => ?_) (fun h => ?_)
  · have H := bt h H
    refine wkd ?_
    cases H
    cases hflag
  · have H := bf h H
    refine wkd ?_
    obtain ⟨r3, hr3, H⟩ := ob H
    refine dr_n rfl (ca rfl rfl rfl (iRadioKey_c hr3) trivial rfl rfl rfl rfl) ?_
    refine wkd ?_
    obtain ⟨r4, hr4, H⟩ := ob H
    refine dr_n rfl (ca rfl rfl rfl (iopenSecured_c hr4) trivial rfl rfl rfl rfl) ?_
    refine wkd ?_
    cases H
    exact fin_ret (.cons (.cell rfl rfl rfl) (.cons (.tmp rfl) .nil)) rfl rfl (by first | rfl | simp)
theorem iOpenRadio_c0 {a0 : Int} {a1 : Int} {a2 : Int} {a3 : TRadioPacket} {r : TNumberedPacket × Bool} (H : iOpenRadio a0 a1 a2 a3 = some r) (hflag : r.2 = false) : Fn Tryz.prog 74 [aI a0, aI a1, aI a2, .agg (eTRadioPacket a3)] [.agg [.d (.i .i64 r.1.Seq), .nil], .c (.d (.b r.2))] := by
  refine fn_in Tryz.func74 rfl (by kernel_rfl) Tryz.ntmps74 rfl rfl rfl ?_
  refine wkd ?_
  obtain ⟨v1, Hj, H⟩ := ob H
  refine awr_join ⟨[(0, tI a0), (2, tI a2), (7, .v (.c (.p 0 0))), (8, .v (.c (.p 1 0))), (26, tB v1)], [(0, .var 118 [.d false (.i .i64 a3.Generation), .d false (.i .i64 a3.Epoch), .d false (.i .i64 a3.Message.Direction), .d false (.i .i64 a3.Message.Count), .d false (.l (a3.Message.Data.map eU8)), .d false (.i .i64 a3.Message.MAC)]), (1, .var 136 [.d false (.i .i64 0), .nil])], 2⟩ ?_ ?_
  · have H := Hj
    refine wkd ?_
    refine g2 rfl rfl rfl (fun h => ?_) (fun h => ?_)
    · have H := bt h H
      refine wkd ?_
      cases H
      exact weak_of ⟨rfl, rfl, rfl, rfl, rfl, rfl, rfl, rfl, rfl, rfl, trivial⟩ ⟨rfl, ⟨rfl, rfl⟩, rfl, ⟨rfl, rfl⟩, trivial⟩
    · have H := bf h H
      refine wkd ?_
      refine g2 rfl rfl rfl (fun h => ?_) (fun h => ?_)
      · have H := bt h H
        refine wkd ?_
        cases H
        exact weak_of ⟨rfl, rfl, rfl, rfl, rfl, rfl, rfl, rfl, rfl, rfl, trivial⟩ ⟨rfl, ⟨rfl, rfl⟩, rfl, ⟨rfl, rfl⟩, trivial⟩
      · have H := bf h H
        refine wkd ?_
        obtain ⟨r2, hr2, H⟩ := ob H
        refine awr_ng rfl rfl rfl rfl (ca rfl rfl rfl (iVerifyRadio_c hr2) trivial rfl rfl rfl rfl) ?_
        refine wkd ?_
        cases H
        exact weak_of ⟨rfl, rfl, rfl, rfl, rfl, rfl, rfl, rfl, rfl, rfl, trivial⟩ ⟨rfl, ⟨rfl, rfl⟩, rfl, ⟨rfl, rfl⟩, trivial⟩
  refine wkd ?_
  refine awc_cond rfl (fun h => ?_) (fun h => ?_)
  · have H := bt h H
    refine wkd ?_
    cases H
    exact fin_ret (.cons (.cell rfl rfl rfl) (.cons (.tmp rfl) .nil)) rfl rfl rfl
  · have H := bf h H
    refine wkd ?_
    obtain ⟨r3, hr3, H⟩ := ob H
    refine dr_n rfl (ca rfl rfl rfl (iRadioKey_c hr3) trivial rfl rfl rfl rfl) ?_
    refine wkd ?_
    obtain ⟨r4, hr4, H⟩ := ob H
    refine dr_n rfl (ca rfl rfl rfl (iopenSecured_c hr4) trivial rfl rfl rfl rfl) ?_
    refine wkd ?_
    cases H
    cases hflag
def iEavesdrop (a0 : TNetwork) (a1 : List TLeakedKey) (a2 : Int) : Option (List Int × Bool) :=
  Option.bind (iInRange a2 0 (WR (((a0.Flights.length : Nat) : Int) - 1))) fun r1 => bif !r1 then (some (([] : List Int), false)) else (Option.bind (ix a0.Flights a2) fun x2 => Option.bind (bif !x2.IsRadio then (some true) else (Option.bind (iisReadable a1 x2.Radio) fun r4 => bif !r4 then (some true) else (Option.bind (iInRange x2.Device 0 (WR (((a0.Sessions.length : Nat) : Int) - 1))) fun r5 => some (!r5)))) fun (v3 : Bool) => bif v3 then (some (([] : List Int), false)) else (Option.bind (ix a0.Sessions x2.Device) fun x6 => Option.bind (iOpenRadio x6.RootKey x6.Generation x2.Radio.Epoch x2.Radio) fun r7 => bif r7.2 then (some (r7.1.Data, true)) else (some (([] : List Int), false))))
theorem iEavesdrop_c {a0 : TNetwork} {a1 : List TLeakedKey} {a2 : Int} {r : List Int × Bool} (H : iEavesdrop a0 a1 a2 = some r) : Fn Tryz.prog 18 [.agg (eTNetwork a0), aL (a1.map eTLeakedKey), aI a2] [.c (.own 5 1 (r.1.map eU8) r.1.length), .c (.d (.b r.2))] := by
  refine fn_in Tryz.func18 rfl (by kernel_rfl) Tryz.ntmps18 rfl rfl rfl ?_
  refine wk ?_
  obtain ⟨r1, hr1, H⟩ := ob H
  refine awr_n rfl (ca rfl rfl rfl (iInRange_c hr1) trivial rfl rfl rfl rfl) ?_
  refine wk ?_
  refine awc_cond rfl (fun h => ?_) (fun h => ?_)
  · have H := bt h H
    refine wk ?_
    cases H
    exact fin_ret (.cons (.tmp rfl) (.cons (.tmp rfl) .nil)) rfl rfl (by first | rfl | simp)
  · have H := bf h H
    refine wk ?_
    obtain ⟨x2, hx2, H⟩ := ob H
    refine awr_n rfl (xdT (enc := eTFlight) hx2 (fun _ => rfl) rfl rfl rfl) ?_
    refine wk ?_
    obtain ⟨v3, Hj, H⟩ := ob H
    refine awr_join ⟨[(3, .v (.c (.p 0 0))), (8, .v (.c (.p 1 0))), (44, tB v3)], [(0, .var 40 [.d false (.l (a0.Map.Cells.map eTCell)), .d false (.l (a0.Devices.map eTDevice)), .d false (.l (a0.Sessions.map eTSession)), .d false (.l (a0.Accounts.map eTAccount)), .d false (.l (a0.Flights.map eTFlight)), .d false (.i .i64 a0.DownCells), .d false (.i .i64 a0.Core.Size), .d false (.i .i64 a0.Core.UpMask), .d false (.i .i64 a0.Now), .d false (.i .i64 a0.Lost)]), (1, .var 120 [.d false (.i .i64 x2.Device), .d false (.b x2.Uplink), .d false (.b x2.IsRadio), .d false (.i .i64 x2.Cell), .d false (.i .i64 x2.Signal.Kind), .d false (.i .i64 x2.Signal.Cell), .d false (.i .i64 x2.Signal.Generation), .d false (.i .i64 x2.Signal.Epoch), .d false (.i .i64 x2.Signal.Number), .d false (.i .i64 x2.Signal.Vector.Rand), .d false (.i .i64 x2.Signal.Vector.Autn), .d false (.i .i64 x2.Signal.Vector.MAC), .d false (.i .i64 x2.Signal.Vector.Res), .d false (.i .i64 x2.Signal.Vector.Key), .d false (.i .i64 x2.Signal.MAC), .d false (.i .i64 x2.Radio.Generation), .d false (.i .i64 x2.Radio.Epoch), .d false (.i .i64 x2.Radio.Message.Direction), .d false (.i .i64 x2.Radio.Message.Count), .d false (.l (x2.Radio.Message.Data.map eU8)), .d false (.i .i64 x2.Radio.Message.MAC)])], 2⟩ ?_ ?_
    · have H := Hj
      refine wk ?_
      refine g2 rfl rfl rfl (fun h => ?_) (fun h => ?_)
      · have H := bt h H
        refine wk ?_
        cases H
        exact weak_of ⟨rfl, rfl, rfl, rfl, rfl, rfl, trivial⟩ ⟨rfl, ⟨rfl, rfl⟩, rfl, ⟨rfl, rfl⟩, trivial⟩
      · have H := bf h H
        refine wk ?_
        obtain ⟨r4, hr4, H⟩ := ob H
        refine awr_ng rfl rfl rfl rfl (ca rfl rfl rfl (iisReadable_c hr4) trivial rfl rfl rfl rfl) ?_
        refine wk ?_
        refine g2 rfl rfl rfl (fun h => ?_) (fun h => ?_)
        · have H := bt h H
          refine wk ?_
          cases H
          exact weak_of ⟨rfl, rfl, rfl, rfl, rfl, rfl, trivial⟩ ⟨rfl, ⟨rfl, rfl⟩, rfl, ⟨rfl, rfl⟩, trivial⟩
        · have H := bf h H
          refine wk ?_
          obtain ⟨r5, hr5, H⟩ := ob H
          refine awr_ng rfl rfl rfl rfl (ca rfl rfl rfl (iInRange_c hr5) trivial rfl rfl rfl rfl) ?_
          refine wk ?_
          cases H
          exact weak_of ⟨rfl, rfl, rfl, rfl, rfl, rfl, trivial⟩ ⟨rfl, ⟨rfl, rfl⟩, rfl, ⟨rfl, rfl⟩, trivial⟩
    refine wk ?_
    refine awc_cond rfl (fun h => ?_) (fun h => ?_)
    · have H := bt h H
      refine wk ?_
      cases H
      exact fin_ret (.cons (.tmp rfl) (.cons (.tmp rfl) .nil)) rfl rfl (by first | rfl | simp)
    · have H := bf h H
      refine wk ?_
      obtain ⟨x6, hx6, H⟩ := ob H
      refine awr_n rfl (xdT (enc := eTSession) hx6 (fun _ => rfl) rfl rfl rfl) ?_
      refine wk ?_
      obtain ⟨r7, hr7, H⟩ := ob H
      rcases hb : r7.2 with _ | _
      · have H := bf hb H
        refine awr_n rfl (ca rfl rfl rfl (iOpenRadio_c0 hr7 hb) trivial rfl rfl rfl rfl) ?_
        simp only [hb]
        refine wk ?_
        cases H
        exact fin_ret (.cons (.tmp rfl) (.cons (.tmp rfl) .nil)) rfl rfl (by first | rfl | simp)
      · have H := bt hb H
        refine awr_n rfl (ca rfl rfl rfl (iOpenRadio_c1 hr7 hb) trivial rfl rfl rfl rfl) ?_
        simp only [hb]
        refine wk ?_
        cases H
        exact fin_ret (.cons (.tmp rfl) (.cons (.tmp rfl) .nil)) rfl rfl (by first | rfl | simp)
end Go.AM
