/-
  Own text: a part of the abstract machine for this seat (Ham). No statement is proved here.
-/
import Derived.Test.YtnhgchfpccpcdaaHag
set_option linter.unusedVariables false
namespace Go.AM
open Go.Proofs
attribute [local irreducible] AWN NS AWO AWR AWC DR Weak iterQ
set_option maxRecDepth 100000
set_option maxHeartbeats 4000000
def ltoByteS_L1 (a0 : List Int) : (Int × List Int) → Option (Step (Int × List Int) (List Int))
  | (v1, v2) => bif ltB v1 ((a0.length : Nat) : Int) then (Option.bind (ix a0 v1) fun x6 => Option.bind (ix v2 v1) fun x7 => some (.next (WR (v1 + 1), (v2.set (v1).toNat x6)))) else (some (.done v2))
def ltoByteS (a0 : List Int) : Option (List Int) :=
  bif mkOk 1 ((a0.length : Nat) : Int) ((a0.length : Nat) : Int) then (Option.bind (iter (ltoByteS_L1 a0) FU (0, (List.replicate (((a0.length : Nat) : Int)).toNat 0))) fun (v5 : List Int) => some v5) else none
theorem ltoByteS_c {a0 : List Int} {r : List Int} (H : ltoByteS a0 = some r) : Fn Try.prog 12 [aL (a0.map eU8)] [.c (.own 5 1 (r.map eU8) r.length)] := by
  refine fn_in Try.func12 rfl (by kernel_rfl) Try.ntmps12 rfl rfl rfl ?_
  refine wk ?_
  obtain ⟨h, H⟩ := rq H
  refine awr_n rfl (mkT (enc := eU8) (za := 0) h (by rfl) rfl rfl rfl rfl) ?_
  refine wk ?_
  obtain ⟨v5, Hj, H⟩ := ob H
  refine awc_jblk ⟨[(3, .v (.c (.w 0 v5.length)))], [(0, .row 5 1 (v5.map eU8) true true)], 1⟩ ?_ ?_
  · refine wk ?_
    refine awc_iter (fun (q : Int × List Int) => ⟨[(0, .v (.c (.d false (.l (a0.map eU8))))), (3, .v (.c (.w 0 q.2.length))), (4, tI q.1)], [(0, .row 5 1 (q.2.map eU8) true true)], 1⟩) Hj (weak_of ⟨rfl, rfl, wn rfl (by first | rfl | simp), rfl, rfl, rfl, trivial⟩ ⟨rfl, ⟨rfl, rfl⟩, trivial⟩) ?_
    rintro ⟨v1, v2⟩ o H
    try dsimp only
    refine wk ?_
    refine awc_cond rfl (fun h => ?_) (fun h => ?_)
    · have H := bt h H
      refine wk ?_
      obtain ⟨x6, hx6, H⟩ := ob H
      refine awr_n rfl (xdT (enc := eU8) hx6 (fun _ => rfl) rfl rfl rfl) ?_
      refine wk ?_
      obtain ⟨x7, hx7, H⟩ := ob H
      refine awr_n rfl (xwT hx7 (by first | rfl | simp) rfl rfl rfl) ?_
      refine wk ?_
      refine awr_step rfl (soT (enc := eU8) (a' := x6) hx7 rfl rfl rfl rfl rfl rfl rfl) ?_
      refine wk ?_
      cases H
      refine iq_n ?_
      exact weak_of ⟨rfl, rfl, wn rfl (by first | rfl | simp), rfl, rfl, rfl, trivial⟩ ⟨rfl, ⟨rfl, rfl⟩, trivial⟩
    · have H := bf h H
      refine wk ?_
      cases H
      refine iq_e (fun hq => ?_)
      cases hq
      refine wk ?_
      exact weak_of ⟨wn rfl (by first | rfl | simp), rfl, trivial⟩ ⟨rfl, ⟨rfl, rfl⟩, trivial⟩
  refine wk ?_
  cases H
  exact fin_ret (.cons (.tmp rfl) .nil) rfl rfl (by first | rfl | simp)
def leqByteS_L1 (a0 : List Int) (a1 : List Int) : Int → Option (Step (Int) (Bool))
  | v1 => bif ltB v1 ((a0.length : Nat) : Int) then (Option.bind (ix a0 v1) fun x2 => Option.bind (ix a1 v1) fun x3 => bif !eqB x2 x3 then (dn (some false)) else (some (.next (WR (v1 + 1))))) else (dn (some true))
def leqByteS (a0 : List Int) (a1 : List Int) : Option Bool :=
  bif !eqB ((a0.length : Nat) : Int) ((a1.length : Nat) : Int) then (some false) else (iter (leqByteS_L1 a0 a1) FU 0)
theorem leqByteS_c {a0 : List Int} {a1 : List Int} {r : Bool} (H : leqByteS a0 a1 = some r) : Fn Try.prog 14 [aL (a0.map eU8), aL (a1.map eU8)] [.c (.d (.b r))] := by
  refine fn_in Try.func14 rfl (by kernel_rfl) Try.ntmps14 rfl rfl rfl ?_
  refine wkd ?_
  refine awc_cond rfl (fun h => ?_) (fun h => ?_)
  · have H := bt h H
    refine wkd ?_
    cases H
    exact fin_ret (.cons (.tmp rfl) .nil) rfl rfl rfl
  · have H := bf h H
    refine wkd ?_
    refine awc_iter (fun (q : Int) => ⟨[(0, .v (.c (.d false (.l (a0.map eU8))))), (1, .v (.c (.d false (.l (a1.map eU8))))), (5, tI q)], [], 0⟩) H (weak_of ⟨rfl, rfl, rfl, rfl, rfl, rfl, trivial⟩ trivial) ?_
    rintro v1 o H
    try dsimp only
    refine wkd ?_
    refine awc_cond rfl (fun h => ?_) (fun h => ?_)
    · have H := bt h H
      refine wkd ?_
      obtain ⟨x2, hx2, H⟩ := ob H
      refine dr_n rfl (xdT (enc := eU8) hx2 (fun _ => rfl) rfl rfl rfl) ?_
      refine wkd ?_
      obtain ⟨x3, hx3, H⟩ := ob H
      refine dr_n rfl (xdT (enc := eU8) hx3 (fun _ => rfl) rfl rfl rfl) ?_
      refine wkd ?_
      refine awc_cond rfl (fun h => ?_) (fun h => ?_)
      · have H := bt h H
        refine wkd ?_
        obtain ⟨r0, Hd, rfl⟩ := dnE H
        refine iq_r (fun hq => ?_)
        have H := Hd.trans (congrArg some hq)
        refine wkd ?_
        cases H
        exact fin_ret (.cons (.tmp rfl) .nil) rfl rfl rfl
      · have H := bf h H
        refine wkd ?_
        cases H
        refine iq_n ?_
        exact weak_of ⟨rfl, rfl, rfl, rfl, rfl, rfl, trivial⟩ trivial
    · have H := bf h H
      refine wkd ?_
      obtain ⟨r0, Hd, rfl⟩ := dnE H
      refine iq_e (fun hq => ?_)
      have H := Hd.trans (congrArg some hq)
      refine wkd ?_
      cases H
      exact fin_ret (.cons (.tmp rfl) .nil) rfl rfl rfl
def lbig (a0 : List Int) : Option Bool :=
  some (ltB 1048576 ((a0.length : Nat) : Int))
theorem lbig_c {a0 : List Int} {r : Bool} (H : lbig a0 = some r) : Fn Try.prog 15 [aL (a0.map eU8)] [.c (.d (.b r))] := by
  refine fn_in Try.func15 rfl (by kernel_rfl) Try.ntmps15 rfl rfl rfl ?_
  refine wk ?_
  cases H
  exact fin_ret (.cons (.tmp rfl) .nil) rfl rfl rfl
def lszIntS (a0 : List Int) (a1 : Int) : Option Int :=
  bif ltB (WR (a1 - ((a0.length : Nat) : Int))) 0 then (some (-1)) else (some (WR (a1 - ((a0.length : Nat) : Int))))
theorem lszIntS_c {a0 : List Int} {a1 : Int} {r : Int} (H : lszIntS a0 a1 = some r) : Fn Try.prog 122 [aL (a0.map eI), aI a1] [.c (.d (.i .i64 r))] := by
  refine fn_in Try.func122 rfl (by kernel_rfl) Try.ntmps122 rfl rfl rfl ?_
  refine wk ?_
  refine awc_cond rfl (fun h => ?_) (fun h => ?_)
  · have H := bt h H
    refine wk ?_
    cases H
    exact fin_ret (.cons (.tmp rfl) .nil) rfl rfl rfl
  · have H := bf h H
    refine wk ?_
    cases H
    exact fin_ret (.cons (.tmp rfl) .nil) rfl rfl rfl
def lszKeyPath (a0 : TKeyPath) (a1 : Int) : Option Int :=
  Option.bind (lszIntS a0.Steps a1) fun r1 => bif ltB r1 0 then (some (-1)) else (some r1)
theorem lszKeyPath_c {a0 : TKeyPath} {a1 : Int} {r : Int} (H : lszKeyPath a0 a1 = some r) : Fn Try.prog 141 [.agg (eTKeyPath a0), aI a1] [.c (.d (.i .i64 r))] := by
  refine fn_in Try.func141 rfl (by kernel_rfl) Try.ntmps141 rfl rfl rfl ?_
  refine wk ?_
  obtain ⟨r1, hr1, H⟩ := ob H
  refine awr_n rfl (ca rfl rfl rfl (lszIntS_c hr1) trivial rfl rfl rfl rfl) ?_
  refine wk ?_
  refine awc_cond rfl (fun h => ?_) (fun h => ?_)
  · have H := bt h H
    refine wk ?_
    cases H
    exact fin_ret (.cons (.tmp rfl) .nil) rfl rfl rfl
  · have H := bf h H
    refine wk ?_
    cases H
    exact fin_ret (.cons (.tmp rfl) .nil) rfl rfl rfl
def lszLeakedKey (a0 : TLeakedKey) (a1 : Int) : Option Int :=
  Option.bind (lszKeyPath a0.Path a1) fun r1 => bif ltB r1 0 then (some (-1)) else (some r1)
theorem lszLeakedKey_c {a0 : TLeakedKey} {a1 : Int} {r : Int} (H : lszLeakedKey a0 a1 = some r) : Fn Try.prog 92 [.agg (eTLeakedKey a0), aI a1] [.c (.d (.i .i64 r))] := by
  refine fn_in Try.func92 rfl (by kernel_rfl) Try.ntmps92 rfl rfl rfl ?_
  refine wk ?_
  obtain ⟨r1, hr1, H⟩ := ob H
  refine awr_n rfl (ca rfl rfl rfl (lszKeyPath_c hr1) trivial rfl rfl rfl rfl) ?_
  refine wk ?_
  refine awc_cond rfl (fun h => ?_) (fun h => ?_)
  · have H := bt h H
    refine wk ?_
    cases H
    exact fin_ret (.cons (.tmp rfl) .nil) rfl rfl rfl
  · have H := bf h H
    refine wk ?_
    cases H
    exact fin_ret (.cons (.tmp rfl) .nil) rfl rfl rfl
def lszLeakedKeyS_L1 (a0 : List TLeakedKey) : (Int × Int) → Option (Step (Int × Int) (Int))
  | (v1, v2) => bif ltB v2 ((a0.length : Nat) : Int) then (Option.bind (ix a0 v2) fun x3 => Option.bind (lszLeakedKey x3 v1) fun r4 => bif ltB r4 0 then (dn (some (-1))) else (some (.next (r4, WR (v2 + 1))))) else (dn (some v1))
def lszLeakedKeyS (a0 : List TLeakedKey) (a1 : Int) : Option Int :=
  bif ltB (WR (a1 - ((a0.length : Nat) : Int))) 0 then (some (-1)) else (iter (lszLeakedKeyS_L1 a0) FU (WR (a1 - ((a0.length : Nat) : Int)), 0))
theorem lszLeakedKeyS_c {a0 : List TLeakedKey} {a1 : Int} {r : Int} (H : lszLeakedKeyS a0 a1 = some r) : Fn Try.prog 36 [aL (a0.map eTLeakedKey), aI a1] [.c (.d (.i .i64 r))] := by
  refine fn_in Try.func36 rfl (by kernel_rfl) Try.ntmps36 rfl rfl rfl ?_
  refine wk ?_
  refine awc_cond rfl (fun h => ?_) (fun h => ?_)
  · have H := bt h H
    refine wk ?_
    cases H
    exact fin_ret (.cons (.tmp rfl) .nil) rfl rfl rfl
  · have H := bf h H
    refine wk ?_
    refine awc_iter (fun (q : Int × Int) => ⟨[(0, .v (.c (.d false (.l (a0.map eTLeakedKey))))), (1, tI q.1), (5, tI q.2)], [], 0⟩) H (weak_of ⟨rfl, rfl, rfl, rfl, rfl, rfl, trivial⟩ trivial) ?_
    rintro ⟨v1, v2⟩ o H
    try dsimp only
    refine wk ?_
    refine awc_cond rfl (fun h => ?_) (fun h => ?_)
    · have H := bt h H
      refine wk ?_
      obtain ⟨x3, hx3, H⟩ := ob H
      refine awr_n rfl (xdT (enc := eTLeakedKey) hx3 (fun _ => rfl) rfl rfl rfl) ?_
      refine wk ?_
      obtain ⟨r4, hr4, H⟩ := ob H
      refine awr_n rfl (ca rfl rfl rfl (lszLeakedKey_c hr4) trivial rfl rfl rfl rfl) ?_
      refine wk ?_
      refine awc_cond rfl (fun h => ?_) (fun h => ?_)
      · have H := bt h H
        refine wk ?_
        obtain ⟨r0, Hd, rfl⟩ := dnE H
        refine iq_r (fun hq => ?_)
        have H := Hd.trans (congrArg some hq)
        refine wk ?_
        cases H
        exact fin_ret (.cons (.tmp rfl) .nil) rfl rfl rfl
      · have H := bf h H
        refine wk ?_
        cases H
        refine iq_n ?_
        exact weak_of ⟨rfl, rfl, rfl, rfl, rfl, rfl, trivial⟩ trivial
    · have H := bf h H
      refine wk ?_
      obtain ⟨r0, Hd, rfl⟩ := dnE H
      refine iq_e (fun hq => ?_)
      have H := Hd.trans (congrArg some hq)
      refine wk ?_
      cases H
      exact fin_ret (.cons (.tmp rfl) .nil) rfl rfl rfl
def ltoIntS_L1 (a0 : List Int) : (Int × List Int) → Option (Step (Int × List Int) (List Int))
  | (v1, v2) => bif ltB v1 ((a0.length : Nat) : Int) then (Option.bind (ix a0 v1) fun x6 => Option.bind (ix v2 v1) fun x7 => some (.next (WR (v1 + 1), (v2.set (v1).toNat x6)))) else (some (.done v2))
def ltoIntS (a0 : List Int) : Option (List Int) :=
  bif mkOk 8 ((a0.length : Nat) : Int) ((a0.length : Nat) : Int) then (Option.bind (iter (ltoIntS_L1 a0) FU (0, (List.replicate (((a0.length : Nat) : Int)).toNat 0))) fun (v5 : List Int) => some v5) else none
theorem ltoIntS_c {a0 : List Int} {r : List Int} (H : ltoIntS a0 = some r) : Fn Try.prog 128 [aL (a0.map eI)] [.c (.own 3 1 (r.map eI) r.length)] := by
  refine fn_in Try.func128 rfl (by kernel_rfl) Try.ntmps128 rfl rfl rfl ?_
  refine wk ?_
  obtain ⟨h, H⟩ := rq H
  refine awr_n rfl (mkT (enc := eI) (za := 0) h (by rfl) rfl rfl rfl rfl) ?_
  refine wk ?_
  obtain ⟨v5, Hj, H⟩ := ob H
  refine awc_jblk ⟨[(3, .v (.c (.w 0 v5.length)))], [(0, .row 3 1 (v5.map eI) true true)], 1⟩ ?_ ?_
  · refine wk ?_
    refine awc_iter (fun (q : Int × List Int) => ⟨[(0, .v (.c (.d false (.l (a0.map eI))))), (3, .v (.c (.w 0 q.2.length))), (4, tI q.1)], [(0, .row 3 1 (q.2.map eI) true true)], 1⟩) Hj (weak_of ⟨rfl, rfl, wn rfl (by first | rfl | simp), rfl, rfl, rfl, trivial⟩ ⟨rfl, ⟨rfl, rfl⟩, trivial⟩) ?_
    rintro ⟨v1, v2⟩ o H
    try dsimp only
    refine wk ?_
    refine awc_cond rfl (fun h => ?_) (fun h => ?_)
    · have H := bt h H
      refine wk ?_
      obtain ⟨x6, hx6, H⟩ := ob H
      refine awr_n rfl (xdT (enc := eI) hx6 (fun _ => rfl) rfl rfl rfl) ?_
      refine wk ?_
      obtain ⟨x7, hx7, H⟩ := ob H
      refine awr_n rfl (xwT hx7 (by first | rfl | simp) rfl rfl rfl) ?_
      refine wk ?_
      refine awr_step rfl (soT (enc := eI) (a' := x6) hx7 rfl rfl rfl rfl rfl rfl rfl) ?_
      refine wk ?_
      cases H
      refine iq_n ?_
      exact weak_of ⟨rfl, rfl, wn rfl (by first | rfl | simp), rfl, rfl, rfl, trivial⟩ ⟨rfl, ⟨rfl, rfl⟩, trivial⟩
    · have H := bf h H
      refine wk ?_
      cases H
      refine iq_e (fun hq => ?_)
      cases hq
      refine wk ?_
      exact weak_of ⟨wn rfl (by first | rfl | simp), rfl, trivial⟩ ⟨rfl, ⟨rfl, rfl⟩, trivial⟩
  refine wk ?_
  cases H
  exact fin_ret (.cons (.tmp rfl) .nil) rfl rfl (by first | rfl | simp)
def ltoKeyPath (a0 : TKeyPath) : Option TKeyPath :=
  Option.bind (ltoIntS a0.Steps) fun r1 => some (⟨r1⟩ : TKeyPath)
theorem ltoKeyPath_c {a0 : TKeyPath} {r : TKeyPath} (H : ltoKeyPath a0 = some r) : Fn Try.prog 143 [.agg (eTKeyPath a0)] [.agg [.own 3 1 (r.Steps.map eI) r.Steps.length]] := by
  refine fn_in Try.func143 rfl (by kernel_rfl) Try.ntmps143 rfl rfl rfl ?_
  refine wk ?_
  obtain ⟨r1, hr1, H⟩ := ob H
  refine awr_n rfl (ca rfl rfl rfl (ltoIntS_c hr1) trivial rfl rfl rfl rfl) ?_
  refine wk ?_
  cases H
  exact fin_ret (.cons (.cell rfl rfl rfl) .nil) rfl rfl (by first | rfl | simp)
def ltoLeakedKey (a0 : TLeakedKey) : Option TLeakedKey :=
  Option.bind (ltoKeyPath a0.Path) fun r1 => some (⟨a0.Generation, r1⟩ : TLeakedKey)
theorem ltoLeakedKey_c {a0 : TLeakedKey} {r : TLeakedKey} (H : ltoLeakedKey a0 = some r) : Fn Try.prog 95 [.agg (eTLeakedKey a0)] [.agg [.d (.i .i64 r.Generation), .own 3 1 (r.Path.Steps.map eI) r.Path.Steps.length]] := by
  refine fn_in Try.func95 rfl (by kernel_rfl) Try.ntmps95 rfl rfl rfl ?_
  refine wk ?_
  obtain ⟨r1, hr1, H⟩ := ob H
  refine awr_n rfl (ca rfl rfl rfl (ltoKeyPath_c hr1) trivial rfl rfl rfl rfl) ?_
  refine wk ?_
  cases H
  exact fin_ret (.cons (.cell rfl rfl rfl) .nil) rfl rfl (by first | rfl | simp)
def ltoLeakedKeyS_L1 (a0 : List TLeakedKey) : (Int × List TLeakedKey) → Option (Step (Int × List TLeakedKey) (List TLeakedKey))
  | (v1, v2) => bif ltB v1 ((a0.length : Nat) : Int) then (Option.bind (ix a0 v1) fun x7 => Option.bind (ltoLeakedKey x7) fun r8 => Option.bind (ix v2 v1) fun x9 => some (.next (WR (v1 + 1), (v2.set (v1).toNat r8)))) else (some (.done v2))
def ltoLeakedKeyS (a0 : List TLeakedKey) : Option (List TLeakedKey) :=
  bif mkOk 32 ((a0.length : Nat) : Int) ((a0.length : Nat) : Int) then (Option.bind (iter (ltoLeakedKeyS_L1 a0) FU (0, (List.replicate (((a0.length : Nat) : Int)).toNat (⟨0, (⟨[]⟩ : TKeyPath)⟩ : TLeakedKey)))) fun (v6 : List TLeakedKey) => some v6) else none
theorem ltoLeakedKeyS_c {a0 : List TLeakedKey} {r : List TLeakedKey} (H : ltoLeakedKeyS a0 = some r) : Fn Try.prog 38 [aL (a0.map eTLeakedKey)] [.c (.own 132 2 (r.map eTLeakedKey) r.length)] := by
  refine fn_in Try.func38 rfl (by kernel_rfl) Try.ntmps38 rfl rfl rfl ?_
  refine wk ?_
  obtain ⟨h, H⟩ := rq H
  refine awr_n rfl (mkT (enc := eTLeakedKey) (za := (⟨0, (⟨[]⟩ : TKeyPath)⟩ : TLeakedKey)) h (by rfl) rfl rfl rfl rfl) ?_
  refine wk ?_
  obtain ⟨v6, Hj, H⟩ := ob H
  refine awc_jblk ⟨[(3, .v (.c (.w 0 v6.length)))], [(0, .row 132 2 (v6.map eTLeakedKey) true true)], 1⟩ ?_ ?_
  · refine wk ?_
    refine awc_iter (fun (q : Int × List TLeakedKey) => ⟨[(0, .v (.c (.d false (.l (a0.map eTLeakedKey))))), (3, .v (.c (.w 0 q.2.length))), (4, tI q.1)], [(0, .row 132 2 (q.2.map eTLeakedKey) true true)], 1⟩) Hj (weak_of ⟨rfl, rfl, wn rfl (by first | rfl | simp), rfl, rfl, rfl, trivial⟩ ⟨rfl, ⟨rfl, rfl⟩, trivial⟩) ?_
    rintro ⟨v1, v2⟩ o H
    try dsimp only
    refine wk ?_
    refine awc_cond rfl (fun h => ?_) (fun h => ?_)
    · have H := bt h H
      refine wk ?_
      obtain ⟨x7, hx7, H⟩ := ob H
      refine awr_n rfl (xdT (enc := eTLeakedKey) hx7 (fun _ => rfl) rfl rfl rfl) ?_
      refine wk ?_
      obtain ⟨r8, hr8, H⟩ := ob H
      refine awr_n rfl (ca rfl rfl rfl (ltoLeakedKey_c hr8) trivial rfl rfl rfl rfl) ?_
      refine wk ?_
      obtain ⟨x9, hx9, H⟩ := ob H
      refine awr_n rfl (xwT hx9 (by first | rfl | simp) rfl rfl rfl) ?_
      refine wk ?_
      refine awr_weak (weak_frz (o := 1) rfl rfl) ?_
      refine awr_weak (weak_cast (k := 20) rfl rfl ⟨by first | rfl | simp, trivial⟩) ?_
      refine awr_step rfl (soT (enc := eTLeakedKey) (a' := r8) hx9 rfl rfl rfl rfl rfl rfl rfl) ?_
      refine wk ?_
      cases H
      refine iq_n ?_
      exact weak_of ⟨rfl, rfl, wn rfl (by first | rfl | simp), rfl, rfl, rfl, trivial⟩ ⟨rfl, ⟨rfl, rfl⟩, trivial⟩
    · have H := bf h H
      refine wk ?_
      cases H
      refine iq_e (fun hq => ?_)
      cases hq
      refine wk ?_
      exact weak_of ⟨wn rfl (by first | rfl | simp), rfl, trivial⟩ ⟨rfl, ⟨rfl, rfl⟩, trivial⟩
  refine wk ?_
  cases H
  exact fin_ret (.cons (.tmp rfl) .nil) rfl rfl (by first | rfl | simp)
def leqIntS_L1 (a0 : List Int) (a1 : List Int) : Int → Option (Step (Int) (Bool))
  | v1 => bif ltB v1 ((a0.length : Nat) : Int) then (Option.bind (ix a0 v1) fun x2 => Option.bind (ix a1 v1) fun x3 => bif !eqB x2 x3 then (dn (some false)) else (some (.next (WR (v1 + 1))))) else (dn (some true))
def leqIntS (a0 : List Int) (a1 : List Int) : Option Bool :=
  bif !eqB ((a0.length : Nat) : Int) ((a1.length : Nat) : Int) then (some false) else (iter (leqIntS_L1 a0 a1) FU 0)
theorem leqIntS_c {a0 : List Int} {a1 : List Int} {r : Bool} (H : leqIntS a0 a1 = some r) : Fn Try.prog 40 [aL (a0.map eI), aL (a1.map eI)] [.c (.d (.b r))] := by
  refine fn_in Try.func40 rfl (by kernel_rfl) Try.ntmps40 rfl rfl rfl ?_
  refine wkd ?_
  refine awc_cond rfl (fun h => ?_) (fun h => ?_)
  · have H := bt h H
    refine wkd ?_
    cases H
    exact fin_ret (.cons (.tmp rfl) .nil) rfl rfl rfl
  · have H := bf h H
    refine wkd ?_
    refine awc_iter (fun (q : Int) => ⟨[(0, .v (.c (.d false (.l (a0.map eI))))), (1, .v (.c (.d false (.l (a1.map eI))))), (5, tI q)], [], 0⟩) H (weak_of ⟨rfl, rfl, rfl, rfl, rfl, rfl, trivial⟩ trivial) ?_
    rintro v1 o H
    try dsimp only
    refine wkd ?_
    refine awc_cond rfl (fun h => ?_) (fun h => ?_)
    · have H := bt h H
      refine wkd ?_
      obtain ⟨x2, hx2, H⟩ := ob H
      refine dr_n rfl (xdT (enc := eI) hx2 (fun _ => rfl) rfl rfl rfl) ?_
      refine wkd ?_
      obtain ⟨x3, hx3, H⟩ := ob H
      refine dr_n rfl (xdT (enc := eI) hx3 (fun _ => rfl) rfl rfl rfl) ?_
      refine wkd ?_
      refine awc_cond rfl (fun h => ?_) (fun h => ?_)
      · have H := bt h H
        refine wkd ?_
        obtain ⟨r0, Hd, rfl⟩ := dnE H
        refine iq_r (fun hq => ?_)
        have H := Hd.trans (congrArg some hq)
        refine wkd ?_
        cases H
        exact fin_ret (.cons (.tmp rfl) .nil) rfl rfl rfl
      · have H := bf h H
        refine wkd ?_
        cases H
        refine iq_n ?_
        exact weak_of ⟨rfl, rfl, rfl, rfl, rfl, rfl, trivial⟩ trivial
    · have H := bf h H
      refine wkd ?_
      obtain ⟨r0, Hd, rfl⟩ := dnE H
      refine iq_e (fun hq => ?_)
      have H := Hd.trans (congrArg some hq)
      refine wkd ?_
      cases H
      exact fin_ret (.cons (.tmp rfl) .nil) rfl rfl rfl
def leqKeyPath (a0 : TKeyPath) (a1 : TKeyPath) : Option Bool :=
  Option.bind (leqIntS a0.Steps a1.Steps) fun r1 => bif !r1 then (some false) else (some true)
theorem leqKeyPath_c {a0 : TKeyPath} {a1 : TKeyPath} {r : Bool} (H : leqKeyPath a0 a1 = some r) : Fn Try.prog 145 [.agg (eTKeyPath a0), .agg (eTKeyPath a1)] [.c (.d (.b r))] := by
  refine fn_in Try.func145 rfl (by kernel_rfl) Try.ntmps145 rfl rfl rfl ?_
  refine wk ?_
  obtain ⟨r1, hr1, H⟩ := ob H
  refine awr_n rfl (ca rfl rfl rfl (leqIntS_c hr1) trivial rfl rfl rfl rfl) ?_
  refine wk ?_
  refine awc_cond rfl (fun h => ?_) (fun h => ?_)
  · have H := bt h H
    refine wk ?_
    cases H
    exact fin_ret (.cons (.tmp rfl) .nil) rfl rfl rfl
  · have H := bf h H
    refine wk ?_
    cases H
    exact fin_ret (.cons (.tmp rfl) .nil) rfl rfl rfl
def leqLeakedKey (a0 : TLeakedKey) (a1 : TLeakedKey) : Option Bool :=
  bif !eqB a0.Generation a1.Generation then (some false) else (Option.bind (leqKeyPath a0.Path a1.Path) fun r1 => bif !r1 then (some false) else (some true))
theorem leqLeakedKey_c {a0 : TLeakedKey} {a1 : TLeakedKey} {r : Bool} (H : leqLeakedKey a0 a1 = some r) : Fn Try.prog 99 [.agg (eTLeakedKey a0), .agg (eTLeakedKey a1)] [.c (.d (.b r))] := by
  refine fn_in Try.func99 rfl (by kernel_rfl) Try.ntmps99 rfl rfl rfl ?_
  refine wk ?_
  refine awc_cond rfl (fun h => ?_) (fun h => ?_)
  · have H := bt h H
    refine wk ?_
    cases H
    exact fin_ret (.cons (.tmp rfl) .nil) rfl rfl rfl
  · have H := bf h H
    refine wk ?_
    obtain ⟨r1, hr1, H⟩ := ob H
    refine awr_n rfl (ca rfl rfl rfl (leqKeyPath_c hr1) trivial rfl rfl rfl rfl) ?_
    refine wk ?_
    refine awc_cond rfl (fun h => ?_) (fun h => ?_)
    · have H := bt h H
      refine wk ?_
      cases H
      exact fin_ret (.cons (.tmp rfl) .nil) rfl rfl rfl
    · have H := bf h H
      refine wk ?_
      cases H
      exact fin_ret (.cons (.tmp rfl) .nil) rfl rfl rfl
def leqLeakedKeyS_L1 (a0 : List TLeakedKey) (a1 : List TLeakedKey) : Int → Option (Step (Int) (Bool))
  | v1 => bif ltB v1 ((a0.length : Nat) : Int) then (Option.bind (ix a0 v1) fun x2 => Option.bind (ix a1 v1) fun x3 => Option.bind (leqLeakedKey x2 x3) fun r4 => bif !r4 then (dn (some false)) else (some (.next (WR (v1 + 1))))) else (dn (some true))
def leqLeakedKeyS (a0 : List TLeakedKey) (a1 : List TLeakedKey) : Option Bool :=
  bif !eqB ((a0.length : Nat) : Int) ((a1.length : Nat) : Int) then (some false) else (iter (leqLeakedKeyS_L1 a0 a1) FU 0)
theorem leqLeakedKeyS_c {a0 : List TLeakedKey} {a1 : List TLeakedKey} {r : Bool} (H : leqLeakedKeyS a0 a1 = some r) : Fn Try.prog 41 [aL (a0.map eTLeakedKey), aL (a1.map eTLeakedKey)] [.c (.d (.b r))] := by
  refine fn_in Try.func41 rfl (by kernel_rfl) Try.ntmps41 rfl rfl rfl ?_
  refine wkd ?_
  refine awc_cond rfl (fun h => ?_) (fun h => ?_)
  · have H := bt h H
    refine wkd ?_
    cases H
    exact fin_ret (.cons (.tmp rfl) .nil) rfl rfl rfl
  · have H := bf h H
    refine wkd ?_
    refine awc_iter (fun (q : Int) => ⟨[(0, .v (.c (.d false (.l (a0.map eTLeakedKey))))), (1, .v (.c (.d false (.l (a1.map eTLeakedKey))))), (5, tI q)], [], 0⟩) H (weak_of ⟨rfl, rfl, rfl, rfl, rfl, rfl, trivial⟩ trivial) ?_
    rintro v1 o H
    try dsimp only
    refine wkd ?_
    refine awc_cond rfl (fun h => ?_) (fun h => ?_)
    · have H := bt h H
      refine wkd ?_
      obtain ⟨x2, hx2, H⟩ := ob H
      refine dr_n rfl (xdT (enc := eTLeakedKey) hx2 (fun _ => rfl) rfl rfl rfl) ?_
      refine wkd ?_
      obtain ⟨x3, hx3, H⟩ := ob H
      refine dr_n rfl (xdT (enc := eTLeakedKey) hx3 (fun _ => rfl) rfl rfl rfl) ?_
      refine wkd ?_
      obtain ⟨r4, hr4, H⟩ := ob H
      refine dr_n rfl (ca rfl rfl rfl (leqLeakedKey_c hr4) trivial rfl rfl rfl rfl) ?_
      refine wkd ?_
      refine awc_cond rfl (fun h => ?_) (fun h => ?_)
      · have H := bt h H
        refine wkd ?_
        obtain ⟨r0, Hd, rfl⟩ := dnE H
        refine iq_r (fun hq => ?_)
        have H := Hd.trans (congrArg some hq)
        refine wkd ?_
        cases H
        exact fin_ret (.cons (.tmp rfl) .nil) rfl rfl rfl
      · have H := bf h H
        refine wkd ?_
        cases H
        refine iq_n ?_
        exact weak_of ⟨rfl, rfl, rfl, rfl, rfl, rfl, trivial⟩ trivial
    · have H := bf h H
      refine wkd ?_
      obtain ⟨r0, Hd, rfl⟩ := dnE H
      refine iq_e (fun hq => ?_)
      have H := Hd.trans (congrArg some hq)
      refine wkd ?_
      cases H
      exact fin_ret (.cons (.tmp rfl) .nil) rfl rfl rfl
def lmarkIntS_z_L1 (a0 : List Int) : (Int × Int) → Option (Step (Int × Int) (Int))
  | (v1, v2) => bif ltB v2 ((a0.length : Nat) : Int) then (Option.bind (ix a0 v2) fun x5 => some (.next (WR (v1 + 1), WR (v2 + 1)))) else (some (.done v1))
def lmarkIntS_z (a0 : List Int) (a1 : Int) : Option Int :=
  Option.bind (iter (lmarkIntS_z_L1 a0) FU (a1, 0)) fun (v4 : Int) => some v4
theorem lmarkIntS_z_c {a0 : List Int} {a1 : Int} {r : Int} (H : lmarkIntS_z a0 a1 = some r) : FnM Try.prog 43 [.v (.c (.z (.l (a0.map eI)))), tI a1] r := by
  refine fn_inM Try.func43 rfl (by kernel_rfl) Try.ntmps43 rfl rfl rfl ?_
  refine wk ?_
  obtain ⟨v4, Hj, H⟩ := ob H
  refine awc_jblk ⟨[(1, tI v4)], [], 0⟩ ?_ ?_
  · refine wk ?_
    refine awc_iter (fun (q : Int × Int) => ⟨[(0, .v (.c (.z (.l (a0.map eI))))), (1, tI q.1), (5, tI q.2)], [], 0⟩) Hj (weak_of ⟨rfl, rfl, rfl, rfl, rfl, rfl, trivial⟩ trivial) ?_
    rintro ⟨v1, v2⟩ o H
    try dsimp only
    refine wk ?_
    refine awc_cond rfl (fun h => ?_) (fun h => ?_)
    · have H := bt h H
      refine wk ?_
      obtain ⟨x5, hx5, H⟩ := ob H
      refine awr_n rfl (xzT (enc := eI) hx5 (fun _ => rfl) rfl rfl rfl) ?_
      refine wk ?_
      cases H
      refine iq_n ?_
      exact weak_of ⟨rfl, rfl, rfl, rfl, rfl, rfl, trivial⟩ trivial
    · have H := bf h H
      refine wk ?_
      cases H
      refine iq_e (fun hq => ?_)
      cases hq
      refine wk ?_
      exact weak_of ⟨rfl, rfl, trivial⟩ trivial
  refine wk ?_
  cases H
  exact fin_ret (.cons (.tmp rfl) .nil) rfl rfl rfl
def lmarkIntS_L1  : (Int × Int × List Int) → Option (Step (Int × Int × List Int) (Int × List Int))
  | (v1, v2, v3) => bif ltB v2 ((v3.length : Nat) : Int) then (Option.bind (ix v3 v2) fun x7 => some (.next (WR (v1 + 1), WR (v2 + 1), (v3.set (v2).toNat v1)))) else (some (.done (v1, v3)))
def lmarkIntS (a0 : List Int) (a1 : Int) : Option (Int × List Int) :=
  Option.bind (iter (lmarkIntS_L1) FU (a1, 0, a0)) fun ((v5, v6) : Int × List Int) => some (v5, v6)
theorem lmarkIntS_c {a0 : List Int} {a1 : Int} {r : Int × List Int} (H : lmarkIntS a0 a1 = some r) : FnW Try.prog 43 (.row 3 1 (a0.map eI) false true) [.v (.c (.w 200 a0.length)), tI a1] (.row 3 1 (r.2.map eI) false true) [.c (.d (.i .i64 r.1))] := by
  refine fn_inW Try.func43 rfl (by kernel_rfl) Try.ntmps43 rfl rfl rfl rfl rfl ?_
  refine wk ?_
  obtain ⟨⟨v5, v6⟩, Hj, H⟩ := ob H
  refine awc_jblk ⟨[(1, tI v5)], [(200, .row 3 1 (v6.map eI) false true)], 210⟩ ?_ ?_
  · refine wk ?_
    refine awc_iter (fun (q : Int × Int × List Int) => ⟨[(0, .v (.c (.w 200 q.2.2.length))), (1, tI q.1), (5, tI q.2.1)], [(200, .row 3 1 (q.2.2.map eI) false true)], 210⟩) Hj (weak_of ⟨wn rfl (by first | rfl | simp), rfl, rfl, rfl, rfl, rfl, trivial⟩ ⟨rfl, ⟨rfl, rfl⟩, trivial⟩) ?_
    rintro ⟨v1, v2, v3⟩ o H
    try dsimp only
    refine wk ?_
    refine awc_cond rfl (fun h => ?_) (fun h => ?_)
    · have H := bt h H
      refine wk ?_
      obtain ⟨x7, hx7, H⟩ := ob H
      refine awr_n rfl (xwT hx7 (by first | rfl | simp) rfl rfl rfl) ?_
      refine wk ?_
      refine awr_step rfl (soT (enc := eI) (a' := v1) hx7 rfl rfl rfl rfl rfl rfl rfl) ?_
      refine wk ?_
      cases H
      refine iq_n ?_
      exact weak_of ⟨wn rfl (by first | rfl | simp), rfl, rfl, rfl, rfl, rfl, trivial⟩ ⟨rfl, ⟨rfl, rfl⟩, trivial⟩
    · have H := bf h H
      refine wk ?_
      cases H
      refine iq_e (fun hq => ?_)
      cases hq
      refine wk ?_
      exact weak_of ⟨rfl, rfl, trivial⟩ ⟨rfl, ⟨rfl, rfl⟩, trivial⟩
  refine wk ?_
  cases H
  exact fin_retW (.cons (.tmp rfl) .nil) rfl rfl rfl rfl (by first | rfl | simp)
def lmarkLeakedKeyS_z_L1 (a0 : List TLeakedKey) : (Int × Int) → Option (Step (Int × Int) (Int))
  | (v1, v2) => bif ltB v2 ((a0.length : Nat) : Int) then (Option.bind (ix a0 v2) fun x7 => Option.bind (ix a0 v2) fun x8 => Option.bind (lmarkIntS_z x8.Path.Steps (WR (v1 + 1))) fun r9 => some (.next (r9, WR (v2 + 1)))) else (some (.done v1))
def lmarkLeakedKeyS_z (a0 : List TLeakedKey) (a1 : Int) : Option Int :=
  Option.bind (iter (lmarkLeakedKeyS_z_L1 a0) FU (a1, 0)) fun (v6 : Int) => some v6
theorem lmarkLeakedKeyS_z_c {a0 : List TLeakedKey} {a1 : Int} {r : Int} (H : lmarkLeakedKeyS_z a0 a1 = some r) : FnM Try.prog 42 [.v (.c (.z (.l (a0.map eTLeakedKey)))), tI a1] r := by
  refine fn_inM Try.func42 rfl (by kernel_rfl) Try.ntmps42 rfl rfl rfl ?_
  refine wk ?_
  obtain ⟨v6, Hj, H⟩ := ob H
  refine awc_jblk ⟨[(1, tI v6)], [], 0⟩ ?_ ?_
  · refine wk ?_
    refine awc_iter (fun (q : Int × Int) => ⟨[(0, .v (.c (.z (.l (a0.map eTLeakedKey))))), (1, tI q.1), (5, tI q.2)], [], 0⟩) Hj (weak_of ⟨rfl, rfl, rfl, rfl, rfl, rfl, trivial⟩ trivial) ?_
    rintro ⟨v1, v2⟩ o H
    try dsimp only
    refine wk ?_
    refine awc_cond rfl (fun h => ?_) (fun h => ?_)
    · have H := bt h H
      refine wk ?_
      obtain ⟨x7, hx7, H⟩ := ob H
      refine awr_n rfl (xzT (enc := eTLeakedKey) hx7 (fun _ => rfl) rfl rfl rfl) ?_
      refine wk ?_
      obtain ⟨x8, hx8, H⟩ := ob H
      refine awr_n rfl (xzT (enc := eTLeakedKey) hx8 (fun _ => rfl) rfl rfl rfl) ?_
      refine wk ?_
      obtain ⟨r9, hr9, H⟩ := ob H
      refine awr_step rfl (cz rfl (lmarkIntS_z_c hr9) rfl rfl) ?_
      refine wk ?_
      cases H
      refine iq_n ?_
      exact weak_of ⟨rfl, rfl, rfl, rfl, rfl, rfl, trivial⟩ trivial
    · have H := bf h H
      refine wk ?_
      cases H
      refine iq_e (fun hq => ?_)
      cases hq
      refine wk ?_
      exact weak_of ⟨rfl, rfl, trivial⟩ trivial
  refine wk ?_
  cases H
  exact fin_ret (.cons (.tmp rfl) .nil) rfl rfl rfl
def lheldIntS_L1 (a0 : List Int) : (Int × Int) → Option (Step (Int × Int) (Int))
  | (v1, v2) => bif ltB v2 ((a0.length : Nat) : Int) then (Option.bind (ix a0 v2) fun x3 => bif !eqB x3 v1 then (dn (some (-1))) else (some (.next (WR (v1 + 1), WR (v2 + 1))))) else (dn (some v1))
def lheldIntS (a0 : List Int) (a1 : Int) : Option Int :=
  iter (lheldIntS_L1 a0) FU (a1, 0)
theorem lheldIntS_c {a0 : List Int} {a1 : Int} {r : Int} (H : lheldIntS a0 a1 = some r) : Fn Try.prog 44 [aL (a0.map eI), aI a1] [.c (.d (.i .i64 r))] := by
  refine fn_in Try.func44 rfl (by kernel_rfl) Try.ntmps44 rfl rfl rfl ?_
  refine wk ?_
  refine awc_iter (fun (q : Int × Int) => ⟨[(0, .v (.c (.d false (.l (a0.map eI))))), (1, tI q.1), (5, tI q.2)], [], 0⟩) H (weak_of ⟨rfl, rfl, rfl, rfl, rfl, rfl, trivial⟩ trivial) ?_
  rintro ⟨v1, v2⟩ o H
  try dsimp only
  refine wk ?_
  refine awc_cond rfl (fun h => ?_) (fun h => ?_)
  · have H := bt h H
    refine wk ?_
    obtain ⟨x3, hx3, H⟩ := ob H
    refine awr_n rfl (xdT (enc := eI) hx3 (fun _ => rfl) rfl rfl rfl) ?_
    refine wk ?_
    refine awc_cond rfl (fun h => ?_) (fun h => ?_)
    · have H := bt h H
      refine wk ?_
      obtain ⟨r0, Hd, rfl⟩ := dnE H
      refine iq_r (fun hq => ?_)
      have H := Hd.trans (congrArg some hq)
      refine wk ?_
      cases H
      exact fin_ret (.cons (.tmp rfl) .nil) rfl rfl rfl
    · have H := bf h H
      refine wk ?_
      cases H
      refine iq_n ?_
      exact weak_of ⟨rfl, rfl, rfl, rfl, rfl, rfl, trivial⟩ trivial
  · have H := bf h H
    refine wk ?_
    obtain ⟨r0, Hd, rfl⟩ := dnE H
    refine iq_e (fun hq => ?_)
    have H := Hd.trans (congrArg some hq)
    refine wk ?_
    cases H
    exact fin_ret (.cons (.tmp rfl) .nil) rfl rfl rfl
def lszUsageRecordS (a0 : List TUsageRecord) (a1 : Int) : Option Int :=
  bif ltB (WR (a1 - ((a0.length : Nat) : Int))) 0 then (some (-1)) else (some (WR (a1 - ((a0.length : Nat) : Int))))
theorem lszUsageRecordS_c {a0 : List TUsageRecord} {a1 : Int} {r : Int} (H : lszUsageRecordS a0 a1 = some r) : Fn Try.prog 150 [aL (a0.map eTUsageRecord), aI a1] [.c (.d (.i .i64 r))] := by
  refine fn_in Try.func150 rfl (by kernel_rfl) Try.ntmps150 rfl rfl rfl ?_
  refine wk ?_
  refine awc_cond rfl (fun h => ?_) (fun h => ?_)
  · have H := bt h H
    refine wk ?_
    cases H
    exact fin_ret (.cons (.tmp rfl) .nil) rfl rfl rfl
  · have H := bf h H
    refine wk ?_
    cases H
    exact fin_ret (.cons (.tmp rfl) .nil) rfl rfl rfl
def lszOperatorBook (a0 : TOperatorBook) (a1 : Int) : Option Int :=
  Option.bind (lszUsageRecordS a0.Own a1) fun r1 => bif ltB r1 0 then (some (-1)) else (Option.bind (lszUsageRecordS a0.Claims r1) fun r2 => bif ltB r2 0 then (some (-1)) else (some r2))
theorem lszOperatorBook_c {a0 : TOperatorBook} {a1 : Int} {r : Int} (H : lszOperatorBook a0 a1 = some r) : Fn Try.prog 109 [.agg (eTOperatorBook a0), aI a1] [.c (.d (.i .i64 r))] := by
  refine fn_in Try.func109 rfl (by kernel_rfl) Try.ntmps109 rfl rfl rfl ?_
  refine wk ?_
  obtain ⟨r1, hr1, H⟩ := ob H
  refine awr_n rfl (ca rfl rfl rfl (lszUsageRecordS_c hr1) trivial rfl rfl rfl rfl) ?_
  refine wk ?_
  refine awc_cond rfl (fun h => ?_) (fun h => ?_)
  · have H := bt h H
    refine wk ?_
    cases H
    exact fin_ret (.cons (.tmp rfl) .nil) rfl rfl rfl
  · have H := bf h H
    refine wk ?_
    obtain ⟨r2, hr2, H⟩ := ob H
    refine awr_n rfl (ca rfl rfl rfl (lszUsageRecordS_c hr2) trivial rfl rfl rfl rfl) ?_
    refine wk ?_
    refine awc_cond rfl (fun h => ?_) (fun h => ?_)
    · have H := bt h H
      refine wk ?_
      cases H
      exact fin_ret (.cons (.tmp rfl) .nil) rfl rfl rfl
    · have H := bf h H
      refine wk ?_
      cases H
      exact fin_ret (.cons (.tmp rfl) .nil) rfl rfl rfl
def lszOperatorBookS_L1 (a0 : List TOperatorBook) : (Int × Int) → Option (Step (Int × Int) (Int))
  | (v1, v2) => bif ltB v2 ((a0.length : Nat) : Int) then (Option.bind (ix a0 v2) fun x3 => Option.bind (lszOperatorBook x3 v1) fun r4 => bif ltB r4 0 then (dn (some (-1))) else (some (.next (r4, WR (v2 + 1))))) else (dn (some v1))
def lszOperatorBookS (a0 : List TOperatorBook) (a1 : Int) : Option Int :=
  bif ltB (WR (a1 - ((a0.length : Nat) : Int))) 0 then (some (-1)) else (iter (lszOperatorBookS_L1 a0) FU (WR (a1 - ((a0.length : Nat) : Int)), 0))
theorem lszOperatorBookS_c {a0 : List TOperatorBook} {a1 : Int} {r : Int} (H : lszOperatorBookS a0 a1 = some r) : Fn Try.prog 53 [aL (a0.map eTOperatorBook), aI a1] [.c (.d (.i .i64 r))] := by
  refine fn_in Try.func53 rfl (by kernel_rfl) Try.ntmps53 rfl rfl rfl ?_
  refine wk ?_
  refine awc_cond rfl (fun h => ?_) (fun h => ?_)
  · have H := bt h H
    refine wk ?_
    cases H
    exact fin_ret (.cons (.tmp rfl) .nil) rfl rfl rfl
  · have H := bf h H
    refine wk ?_
    refine awc_iter (fun (q : Int × Int) => ⟨[(0, .v (.c (.d false (.l (a0.map eTOperatorBook))))), (1, tI q.1), (5, tI q.2)], [], 0⟩) H (weak_of ⟨rfl, rfl, rfl, rfl, rfl, rfl, trivial⟩ trivial) ?_
    rintro ⟨v1, v2⟩ o H
    try dsimp only
    refine wk ?_
    refine awc_cond rfl (fun h => ?_) (fun h => ?_)
    · have H := bt h H
      refine wk ?_
      obtain ⟨x3, hx3, H⟩ := ob H
      refine awr_n rfl (xdT (enc := eTOperatorBook) hx3 (fun _ => rfl) rfl rfl rfl) ?_
      refine wk ?_
      obtain ⟨r4, hr4, H⟩ := ob H
      refine awr_n rfl (ca rfl rfl rfl (lszOperatorBook_c hr4) trivial rfl rfl rfl rfl) ?_
      refine wk ?_
      refine awc_cond rfl (fun h => ?_) (fun h => ?_)
      · have H := bt h H
        refine wk ?_
        obtain ⟨r0, Hd, rfl⟩ := dnE H
        refine iq_r (fun hq => ?_)
        have H := Hd.trans (congrArg some hq)
        refine wk ?_
        cases H
        exact fin_ret (.cons (.tmp rfl) .nil) rfl rfl rfl
      · have H := bf h H
        refine wk ?_
        cases H
        refine iq_n ?_
        exact weak_of ⟨rfl, rfl, rfl, rfl, rfl, rfl, trivial⟩ trivial
    · have H := bf h H
      refine wk ?_
      obtain ⟨r0, Hd, rfl⟩ := dnE H
      refine iq_e (fun hq => ?_)
      have H := Hd.trans (congrArg some hq)
      refine wk ?_
      cases H
      exact fin_ret (.cons (.tmp rfl) .nil) rfl rfl rfl
def lszRoamingAgreementS (a0 : List TRoamingAgreement) (a1 : Int) : Option Int :=
  bif ltB (WR (a1 - ((a0.length : Nat) : Int))) 0 then (some (-1)) else (some (WR (a1 - ((a0.length : Nat) : Int))))
theorem lszRoamingAgreementS_c {a0 : List TRoamingAgreement} {a1 : Int} {r : Int} (H : lszRoamingAgreementS a0 a1 = some r) : Fn Try.prog 54 [aL (a0.map eTRoamingAgreement), aI a1] [.c (.d (.i .i64 r))] := by
  refine fn_in Try.func54 rfl (by kernel_rfl) Try.ntmps54 rfl rfl rfl ?_
  refine wk ?_
  refine awc_cond rfl (fun h => ?_) (fun h => ?_)
  · have H := bt h H
    refine wk ?_
    cases H
    exact fin_ret (.cons (.tmp rfl) .nil) rfl rfl rfl
  · have H := bf h H
    refine wk ?_
    cases H
    exact fin_ret (.cons (.tmp rfl) .nil) rfl rfl rfl
def ltoUsageRecord (a0 : TUsageRecord) : Option TUsageRecord :=
  some a0
theorem ltoUsageRecord_c {a0 : TUsageRecord} {r : TUsageRecord} (H : ltoUsageRecord a0 = some r) : Fn Try.prog 169 [.agg (eTUsageRecord a0)] [.agg [.d (.i .i64 r.Network), .d (.i .i64 r.SessionID), .d (.i .i64 r.Seq), .d (.i .i64 r.Bytes)]] := by
  refine fn_in Try.func169 rfl (by kernel_rfl) Try.ntmps169 rfl rfl rfl ?_
  refine wk ?_
  cases H
  exact fin_ret (.cons (.cell rfl rfl rfl) .nil) rfl rfl rfl
def ltoUsageRecordS_L1 (a0 : List TUsageRecord) : (Int × List TUsageRecord) → Option (Step (Int × List TUsageRecord) (List TUsageRecord))
  | (v1, v2) => bif ltB v1 ((a0.length : Nat) : Int) then (Option.bind (ix a0 v1) fun x7 => Option.bind (ltoUsageRecord x7) fun r8 => Option.bind (ix v2 v1) fun x9 => some (.next (WR (v1 + 1), (v2.set (v1).toNat r8)))) else (some (.done v2))
def ltoUsageRecordS (a0 : List TUsageRecord) : Option (List TUsageRecord) :=
  bif mkOk 32 ((a0.length : Nat) : Int) ((a0.length : Nat) : Int) then (Option.bind (iter (ltoUsageRecordS_L1 a0) FU (0, (List.replicate (((a0.length : Nat) : Int)).toNat (⟨0, 0, 0, 0⟩ : TUsageRecord)))) fun (v6 : List TUsageRecord) => some v6) else none
theorem ltoUsageRecordS_c {a0 : List TUsageRecord} {r : List TUsageRecord} (H : ltoUsageRecordS a0 = some r) : Fn Try.prog 154 [aL (a0.map eTUsageRecord)] [.c (.own 183 4 (r.map eTUsageRecord) r.length)] := by
  refine fn_in Try.func154 rfl (by kernel_rfl) Try.ntmps154 rfl rfl rfl ?_
  refine wk ?_
  obtain ⟨h, H⟩ := rq H
  refine awr_n rfl (mkT (enc := eTUsageRecord) (za := (⟨0, 0, 0, 0⟩ : TUsageRecord)) h (by rfl) rfl rfl rfl rfl) ?_
  refine wk ?_
  obtain ⟨v6, Hj, H⟩ := ob H
  refine awc_jblk ⟨[(3, .v (.c (.w 0 v6.length)))], [(0, .row 183 4 (v6.map eTUsageRecord) true true)], 1⟩ ?_ ?_
  · refine wk ?_
    refine awc_iter (fun (q : Int × List TUsageRecord) => ⟨[(0, .v (.c (.d false (.l (a0.map eTUsageRecord))))), (3, .v (.c (.w 0 q.2.length))), (4, tI q.1)], [(0, .row 183 4 (q.2.map eTUsageRecord) true true)], 1⟩) Hj (weak_of ⟨rfl, rfl, wn rfl (by first | rfl | simp), rfl, rfl, rfl, trivial⟩ ⟨rfl, ⟨rfl, rfl⟩, trivial⟩) ?_
    rintro ⟨v1, v2⟩ o H
    try dsimp only
    refine wk ?_
    refine awc_cond rfl (fun h => ?_) (fun h => ?_)
    · have H := bt h H
      refine wk ?_
      obtain ⟨x7, hx7, H⟩ := ob H
      refine awr_n rfl (xdT (enc := eTUsageRecord) hx7 (fun _ => rfl) rfl rfl rfl) ?_
      refine wk ?_
      obtain ⟨r8, hr8, H⟩ := ob H
      refine awr_n rfl (ca rfl rfl rfl (ltoUsageRecord_c hr8) trivial rfl rfl rfl rfl) ?_
      refine wk ?_
      obtain ⟨x9, hx9, H⟩ := ob H
      refine awr_n rfl (xwT hx9 (by first | rfl | simp) rfl rfl rfl) ?_
      refine wk ?_
      refine awr_step rfl (soT (enc := eTUsageRecord) (a' := r8) hx9 rfl rfl rfl rfl rfl rfl rfl) ?_
      refine wk ?_
      cases H
      refine iq_n ?_
      exact weak_of ⟨rfl, rfl, wn rfl (by first | rfl | simp), rfl, rfl, rfl, trivial⟩ ⟨rfl, ⟨rfl, rfl⟩, trivial⟩
    · have H := bf h H
      refine wk ?_
      cases H
      refine iq_e (fun hq => ?_)
      cases hq
      refine wk ?_
      exact weak_of ⟨wn rfl (by first | rfl | simp), rfl, trivial⟩ ⟨rfl, ⟨rfl, rfl⟩, trivial⟩
  refine wk ?_
  cases H
  exact fin_ret (.cons (.tmp rfl) .nil) rfl rfl (by first | rfl | simp)
def ltoOperatorBook (a0 : TOperatorBook) : Option TOperatorBook :=
  Option.bind (ltoUsageRecordS a0.Own) fun r1 => Option.bind (ltoUsageRecordS a0.Claims) fun r2 => some (⟨a0.Network, r1, r2⟩ : TOperatorBook)
theorem ltoOperatorBook_c {a0 : TOperatorBook} {r : TOperatorBook} (H : ltoOperatorBook a0 = some r) : Fn Try.prog 113 [.agg (eTOperatorBook a0)] [.agg [.d (.i .i64 r.Network), .own 183 4 (r.Own.map eTUsageRecord) r.Own.length, .own 183 4 (r.Claims.map eTUsageRecord) r.Claims.length]] := by
  refine fn_in Try.func113 rfl (by kernel_rfl) Try.ntmps113 rfl rfl rfl ?_
  refine wk ?_
  obtain ⟨r1, hr1, H⟩ := ob H
  refine awr_n rfl (ca rfl rfl rfl (ltoUsageRecordS_c hr1) trivial rfl rfl rfl rfl) ?_
  refine wk ?_
  obtain ⟨r2, hr2, H⟩ := ob H
  refine awr_n rfl (ca rfl rfl rfl (ltoUsageRecordS_c hr2) trivial rfl rfl rfl rfl) ?_
  refine wk ?_
  cases H
  exact fin_ret (.cons (.cell rfl rfl rfl) .nil) rfl rfl (by first | rfl | simp)
def ltoOperatorBookS_L1 (a0 : List TOperatorBook) : (Int × List TOperatorBook) → Option (Step (Int × List TOperatorBook) (List TOperatorBook))
  | (v1, v2) => bif ltB v1 ((a0.length : Nat) : Int) then (Option.bind (ix a0 v1) fun x7 => Option.bind (ltoOperatorBook x7) fun r8 => Option.bind (ix v2 v1) fun x9 => some (.next (WR (v1 + 1), (v2.set (v1).toNat r8)))) else (some (.done v2))
def ltoOperatorBookS (a0 : List TOperatorBook) : Option (List TOperatorBook) :=
  bif mkOk 56 ((a0.length : Nat) : Int) ((a0.length : Nat) : Int) then (Option.bind (iter (ltoOperatorBookS_L1 a0) FU (0, (List.replicate (((a0.length : Nat) : Int)).toNat (⟨0, [], []⟩ : TOperatorBook)))) fun (v6 : List TOperatorBook) => some v6) else none
theorem ltoOperatorBookS_c {a0 : List TOperatorBook} {r : List TOperatorBook} (H : ltoOperatorBookS a0 = some r) : Fn Try.prog 56 [aL (a0.map eTOperatorBook)] [.c (.own 150 3 (r.map eTOperatorBook) r.length)] := by
  refine fn_in Try.func56 rfl (by kernel_rfl) Try.ntmps56 rfl rfl rfl ?_
  refine wk ?_
  obtain ⟨h, H⟩ := rq H
  refine awr_n rfl (mkT (enc := eTOperatorBook) (za := (⟨0, [], []⟩ : TOperatorBook)) h (by rfl) rfl rfl rfl rfl) ?_
  refine wk ?_
  obtain ⟨v6, Hj, H⟩ := ob H
  refine awc_jblk ⟨[(3, .v (.c (.w 0 v6.length)))], [(0, .row 150 3 (v6.map eTOperatorBook) true true)], 1⟩ ?_ ?_
  · refine wk ?_
    refine awc_iter (fun (q : Int × List TOperatorBook) => ⟨[(0, .v (.c (.d false (.l (a0.map eTOperatorBook))))), (3, .v (.c (.w 0 q.2.length))), (4, tI q.1)], [(0, .row 150 3 (q.2.map eTOperatorBook) true true)], 1⟩) Hj (weak_of ⟨rfl, rfl, wn rfl (by first | rfl | simp), rfl, rfl, rfl, trivial⟩ ⟨rfl, ⟨rfl, rfl⟩, trivial⟩) ?_
    rintro ⟨v1, v2⟩ o H
    try dsimp only
    refine wk ?_
    refine awc_cond rfl (fun h => ?_) (fun h => ?_)
    · have H := bt h H
      refine wk ?_
      obtain ⟨x7, hx7, H⟩ := ob H
      refine awr_n rfl (xdT (enc := eTOperatorBook) hx7 (fun _ => rfl) rfl rfl rfl) ?_
      refine wk ?_
      obtain ⟨r8, hr8, H⟩ := ob H
      refine awr_n rfl (ca rfl rfl rfl (ltoOperatorBook_c hr8) trivial rfl rfl rfl rfl) ?_
      refine wk ?_
      obtain ⟨x9, hx9, H⟩ := ob H
      refine awr_n rfl (xwT hx9 (by first | rfl | simp) rfl rfl rfl) ?_
      refine wk ?_
      refine awr_weak (weak_frz (o := 1) rfl rfl) ?_
      refine awr_weak (weak_frz (o := 2) rfl rfl) ?_
      refine awr_weak (weak_cast (k := 20) rfl rfl ⟨by first | rfl | simp, by first | rfl | simp, trivial⟩) ?_
      refine awr_step rfl (soT (enc := eTOperatorBook) (a' := r8) hx9 rfl rfl rfl rfl rfl rfl rfl) ?_
      refine wk ?_
      cases H
      refine iq_n ?_
      exact weak_of ⟨rfl, rfl, wn rfl (by first | rfl | simp), rfl, rfl, rfl, trivial⟩ ⟨rfl, ⟨rfl, rfl⟩, trivial⟩
    · have H := bf h H
      refine wk ?_
      cases H
      refine iq_e (fun hq => ?_)
      cases hq
      refine wk ?_
      exact weak_of ⟨wn rfl (by first | rfl | simp), rfl, trivial⟩ ⟨rfl, ⟨rfl, rfl⟩, trivial⟩
  refine wk ?_
  cases H
  exact fin_ret (.cons (.tmp rfl) .nil) rfl rfl (by first | rfl | simp)
def ltoRoamingAgreement (a0 : TRoamingAgreement) : Option TRoamingAgreement :=
  some a0
theorem ltoRoamingAgreement_c {a0 : TRoamingAgreement} {r : TRoamingAgreement} (H : ltoRoamingAgreement a0 = some r) : Fn Try.prog 114 [.agg (eTRoamingAgreement a0)] [.agg [.d (.i .i64 r.Home), .d (.i .i64 r.Visited), .d (.i .i64 r.Price), .d (.i .i64 r.Cap)]] := by
  refine fn_in Try.func114 rfl (by kernel_rfl) Try.ntmps114 rfl rfl rfl ?_
  refine wk ?_
  cases H
  exact fin_ret (.cons (.cell rfl rfl rfl) .nil) rfl rfl rfl
def ltoRoamingAgreementS_L1 (a0 : List TRoamingAgreement) : (Int × List TRoamingAgreement) → Option (Step (Int × List TRoamingAgreement) (List TRoamingAgreement))
  | (v1, v2) => bif ltB v1 ((a0.length : Nat) : Int) then (Option.bind (ix a0 v1) fun x7 => Option.bind (ltoRoamingAgreement x7) fun r8 => Option.bind (ix v2 v1) fun x9 => some (.next (WR (v1 + 1), (v2.set (v1).toNat r8)))) else (some (.done v2))
def ltoRoamingAgreementS (a0 : List TRoamingAgreement) : Option (List TRoamingAgreement) :=
  bif mkOk 32 ((a0.length : Nat) : Int) ((a0.length : Nat) : Int) then (Option.bind (iter (ltoRoamingAgreementS_L1 a0) FU (0, (List.replicate (((a0.length : Nat) : Int)).toNat (⟨0, 0, 0, 0⟩ : TRoamingAgreement)))) fun (v6 : List TRoamingAgreement) => some v6) else none
theorem ltoRoamingAgreementS_c {a0 : List TRoamingAgreement} {r : List TRoamingAgreement} (H : ltoRoamingAgreementS a0 = some r) : Fn Try.prog 57 [aL (a0.map eTRoamingAgreement)] [.c (.own 62 4 (r.map eTRoamingAgreement) r.length)] := by
  refine fn_in Try.func57 rfl (by kernel_rfl) Try.ntmps57 rfl rfl rfl ?_
  refine wk ?_
  obtain ⟨h, H⟩ := rq H
  refine awr_n rfl (mkT (enc := eTRoamingAgreement) (za := (⟨0, 0, 0, 0⟩ : TRoamingAgreement)) h (by rfl) rfl rfl rfl rfl) ?_
  refine wk ?_
  obtain ⟨v6, Hj, H⟩ := ob H
  refine awc_jblk ⟨[(3, .v (.c (.w 0 v6.length)))], [(0, .row 62 4 (v6.map eTRoamingAgreement) true true)], 1⟩ ?_ ?_
  · refine wk ?_
    refine awc_iter (fun (q : Int × List TRoamingAgreement) => ⟨[(0, .v (.c (.d false (.l (a0.map eTRoamingAgreement))))), (3, .v (.c (.w 0 q.2.length))), (4, tI q.1)], [(0, .row 62 4 (q.2.map eTRoamingAgreement) true true)], 1⟩) Hj (weak_of ⟨rfl, rfl, wn rfl (by first | rfl | simp), rfl, rfl, rfl, trivial⟩ ⟨rfl, ⟨rfl, rfl⟩, trivial⟩) ?_
    rintro ⟨v1, v2⟩ o H
    try dsimp only
    refine wk ?_
    refine awc_cond rfl (fun h => ?_) (fun h => ?_)
    · have H := bt h H
      refine wk ?_
      obtain ⟨x7, hx7, H⟩ := ob H
      refine awr_n rfl (xdT (enc := eTRoamingAgreement) hx7 (fun _ => rfl) rfl rfl rfl) ?_
      refine wk ?_
      obtain ⟨r8, hr8, H⟩ := ob H
      refine awr_n rfl (ca rfl rfl rfl (ltoRoamingAgreement_c hr8) trivial rfl rfl rfl rfl) ?_
      refine wk ?_
      obtain ⟨x9, hx9, H⟩ := ob H
      refine awr_n rfl (xwT hx9 (by first | rfl | simp) rfl rfl rfl) ?_
      refine wk ?_
      refine awr_step rfl (soT (enc := eTRoamingAgreement) (a' := r8) hx9 rfl rfl rfl rfl rfl rfl rfl) ?_
      refine wk ?_
      cases H
      refine iq_n ?_
      exact weak_of ⟨rfl, rfl, wn rfl (by first | rfl | simp), rfl, rfl, rfl, trivial⟩ ⟨rfl, ⟨rfl, rfl⟩, trivial⟩
    · have H := bf h H
      refine wk ?_
      cases H
      refine iq_e (fun hq => ?_)
      cases hq
      refine wk ?_
      exact weak_of ⟨wn rfl (by first | rfl | simp), rfl, trivial⟩ ⟨rfl, ⟨rfl, rfl⟩, trivial⟩
  refine wk ?_
  cases H
  exact fin_ret (.cons (.tmp rfl) .nil) rfl rfl (by first | rfl | simp)
def leqStatementLine (a0 : TStatementLine) (a1 : TStatementLine) : Option Bool :=
  bif !eqB a0.Payer a1.Payer then (some false) else (bif !eqB a0.Payee a1.Payee then (some false) else (bif !eqB a0.Amount a1.Amount then (some false) else (some true)))
theorem leqStatementLine_c {a0 : TStatementLine} {a1 : TStatementLine} {r : Bool} (H : leqStatementLine a0 a1 = some r) : Fn Try.prog 118 [.agg (eTStatementLine a0), .agg (eTStatementLine a1)] [.c (.d (.b r))] := by
  refine fn_in Try.func118 rfl (by kernel_rfl) Try.ntmps118 rfl rfl rfl ?_
  refine wk ?_
  refine awc_cond rfl (fun h => ?_) (fun h => ?_)
  · have H := bt h H
    refine wk ?_
    cases H
    exact fin_ret (.cons (.tmp rfl) .nil) rfl rfl rfl
  · have H := bf h H
    refine wk ?_
    refine awc_cond rfl (fun h => ?_) (fun h => ?_)
    · have H := bt h H
      refine wk ?_
      cases H
      exact fin_ret (.cons (.tmp rfl) .nil) rfl rfl rfl
    · have H := bf h H
      refine wk ?_
      refine awc_cond rfl (fun h => ?_) (fun h => ?_)
      · have H := bt h H
        refine wk ?_
        cases H
        exact fin_ret (.cons (.tmp rfl) .nil) rfl rfl rfl
      · have H := bf h H
        refine wk ?_
        cases H
        exact fin_ret (.cons (.tmp rfl) .nil) rfl rfl rfl
def leqStatementLineS_L1 (a0 : List TStatementLine) (a1 : List TStatementLine) : Int → Option (Step (Int) (Bool))
  | v1 => bif ltB v1 ((a0.length : Nat) : Int) then (Option.bind (ix a0 v1) fun x2 => Option.bind (ix a1 v1) fun x3 => Option.bind (leqStatementLine x2 x3) fun r4 => bif !r4 then (dn (some false)) else (some (.next (WR (v1 + 1))))) else (dn (some true))
def leqStatementLineS (a0 : List TStatementLine) (a1 : List TStatementLine) : Option Bool :=
  bif !eqB ((a0.length : Nat) : Int) ((a1.length : Nat) : Int) then (some false) else (iter (leqStatementLineS_L1 a0 a1) FU 0)
theorem leqStatementLineS_c {a0 : List TStatementLine} {a1 : List TStatementLine} {r : Bool} (H : leqStatementLineS a0 a1 = some r) : Fn Try.prog 59 [aL (a0.map eTStatementLine), aL (a1.map eTStatementLine)] [.c (.d (.b r))] := by
  refine fn_in Try.func59 rfl (by kernel_rfl) Try.ntmps59 rfl rfl rfl ?_
  refine wkd ?_
  refine awc_cond rfl (fun h => ?_) (fun h => ?_)
  · have H := bt h H
    refine wkd ?_
    cases H
    exact fin_ret (.cons (.tmp rfl) .nil) rfl rfl rfl
  · have H := bf h H
    refine wkd ?_
    refine awc_iter (fun (q : Int) => ⟨[(0, .v (.c (.d false (.l (a0.map eTStatementLine))))), (1, .v (.c (.d false (.l (a1.map eTStatementLine))))), (5, tI q)], [], 0⟩) H (weak_of ⟨rfl, rfl, rfl, rfl, rfl, rfl, trivial⟩ trivial) ?_
    rintro v1 o H
    try dsimp only
    refine wkd ?_
    refine awc_cond rfl (fun h => ?_) (fun h => ?_)
    · have H := bt h H
      refine wkd ?_
      obtain ⟨x2, hx2, H⟩ := ob H
      refine dr_n rfl (xdT (enc := eTStatementLine) hx2 (fun _ => rfl) rfl rfl rfl) ?_
      refine wkd ?_
      obtain ⟨x3, hx3, H⟩ := ob H
      refine dr_n rfl (xdT (enc := eTStatementLine) hx3 (fun _ => rfl) rfl rfl rfl) ?_
      refine wkd ?_
      obtain ⟨r4, hr4, H⟩ := ob H
      refine dr_n rfl (ca rfl rfl rfl (leqStatementLine_c hr4) trivial rfl rfl rfl rfl) ?_
      refine wkd ?_
      refine awc_cond rfl (fun h => ?_) (fun h => ?_)
      · have H := bt h H
        refine wkd ?_
        obtain ⟨r0, Hd, rfl⟩ := dnE H
        refine iq_r (fun hq => ?_)
        have H := Hd.trans (congrArg some hq)
        refine wkd ?_
        cases H
        exact fin_ret (.cons (.tmp rfl) .nil) rfl rfl rfl
      · have H := bf h H
        refine wkd ?_
        cases H
        refine iq_n ?_
        exact weak_of ⟨rfl, rfl, rfl, rfl, rfl, rfl, trivial⟩ trivial
    · have H := bf h H
      refine wkd ?_
      obtain ⟨r0, Hd, rfl⟩ := dnE H
      refine iq_e (fun hq => ?_)
      have H := Hd.trans (congrArg some hq)
      refine wkd ?_
      cases H
      exact fin_ret (.cons (.tmp rfl) .nil) rfl rfl rfl
def leqUsageRecord (a0 : TUsageRecord) (a1 : TUsageRecord) : Option Bool :=
  bif !eqB a0.Network a1.Network then (some false) else (bif !eqB a0.SessionID a1.SessionID then (some false) else (bif !eqB a0.Seq a1.Seq then (some false) else (bif !eqB a0.Bytes a1.Bytes then (some false) else (some true))))
theorem leqUsageRecord_c {a0 : TUsageRecord} {a1 : TUsageRecord} {r : Bool} (H : leqUsageRecord a0 a1 = some r) : Fn Try.prog 172 [.agg (eTUsageRecord a0), .agg (eTUsageRecord a1)] [.c (.d (.b r))] := by
  refine fn_in Try.func172 rfl (by kernel_rfl) Try.ntmps172 rfl rfl rfl ?_
  refine wk ?_
  refine awc_cond rfl (fun h => ?_) (fun h => ?_)
  · have H := bt h H
    refine wk ?_
    cases H
    exact fin_ret (.cons (.tmp rfl) .nil) rfl rfl rfl
  · have H := bf h H
    refine wk ?_
    refine awc_cond rfl (fun h => ?_) (fun h => ?_)
    · have H := bt h H
      refine wk ?_
      cases H
      exact fin_ret (.cons (.tmp rfl) .nil) rfl rfl rfl
    · have H := bf h H
      refine wk ?_
      refine awc_cond rfl (fun h => ?_) (fun h => ?_)
      · have H := bt h H
        refine wk ?_
        cases H
        exact fin_ret (.cons (.tmp rfl) .nil) rfl rfl rfl
      · have H := bf h H
        refine wk ?_
        refine awc_cond rfl (fun h => ?_) (fun h => ?_)
        · have H := bt h H
          refine wk ?_
          cases H
          exact fin_ret (.cons (.tmp rfl) .nil) rfl rfl rfl
        · have H := bf h H
          refine wk ?_
          cases H
          exact fin_ret (.cons (.tmp rfl) .nil) rfl rfl rfl
def leqUsageRecordS_L1 (a0 : List TUsageRecord) (a1 : List TUsageRecord) : Int → Option (Step (Int) (Bool))
  | v1 => bif ltB v1 ((a0.length : Nat) : Int) then (Option.bind (ix a0 v1) fun x2 => Option.bind (ix a1 v1) fun x3 => Option.bind (leqUsageRecord x2 x3) fun r4 => bif !r4 then (dn (some false)) else (some (.next (WR (v1 + 1))))) else (dn (some true))
def leqUsageRecordS (a0 : List TUsageRecord) (a1 : List TUsageRecord) : Option Bool :=
  bif !eqB ((a0.length : Nat) : Int) ((a1.length : Nat) : Int) then (some false) else (iter (leqUsageRecordS_L1 a0 a1) FU 0)
theorem leqUsageRecordS_c {a0 : List TUsageRecord} {a1 : List TUsageRecord} {r : Bool} (H : leqUsageRecordS a0 a1 = some r) : Fn Try.prog 157 [aL (a0.map eTUsageRecord), aL (a1.map eTUsageRecord)] [.c (.d (.b r))] := by
  refine fn_in Try.func157 rfl (by kernel_rfl) Try.ntmps157 rfl rfl rfl ?_
  refine wkd ?_
  refine awc_cond rfl (fun h => ?_) (fun h => ?_)
  · have H := bt h H
    refine wkd ?_
    cases H
    exact fin_ret (.cons (.tmp rfl) .nil) rfl rfl rfl
  · have H := bf h H
    refine wkd ?_
    refine awc_iter (fun (q : Int) => ⟨[(0, .v (.c (.d false (.l (a0.map eTUsageRecord))))), (1, .v (.c (.d false (.l (a1.map eTUsageRecord))))), (5, tI q)], [], 0⟩) H (weak_of ⟨rfl, rfl, rfl, rfl, rfl, rfl, trivial⟩ trivial) ?_
    rintro v1 o H
    try dsimp only
    refine wkd ?_
    refine awc_cond rfl (fun h => ?_) (fun h => ?_)
    · have H := bt h H
      refine wkd ?_
      obtain ⟨x2, hx2, H⟩ := ob H
      refine dr_n rfl (xdT (enc := eTUsageRecord) hx2 (fun _ => rfl) rfl rfl rfl) ?_
      refine wkd ?_
      obtain ⟨x3, hx3, H⟩ := ob H
      refine dr_n rfl (xdT (enc := eTUsageRecord) hx3 (fun _ => rfl) rfl rfl rfl) ?_
      refine wkd ?_
      obtain ⟨r4, hr4, H⟩ := ob H
      refine dr_n rfl (ca rfl rfl rfl (leqUsageRecord_c hr4) trivial rfl rfl rfl rfl) ?_
      refine wkd ?_
      refine awc_cond rfl (fun h => ?_) (fun h => ?_)
      · have H := bt h H
        refine wkd ?_
        obtain ⟨r0, Hd, rfl⟩ := dnE H
        refine iq_r (fun hq => ?_)
        have H := Hd.trans (congrArg some hq)
        refine wkd ?_
        cases H
        exact fin_ret (.cons (.tmp rfl) .nil) rfl rfl rfl
      · have H := bf h H
        refine wkd ?_
        cases H
        refine iq_n ?_
        exact weak_of ⟨rfl, rfl, rfl, rfl, rfl, rfl, trivial⟩ trivial
    · have H := bf h H
      refine wkd ?_
      obtain ⟨r0, Hd, rfl⟩ := dnE H
      refine iq_e (fun hq => ?_)
      have H := Hd.trans (congrArg some hq)
      refine wkd ?_
      cases H
      exact fin_ret (.cons (.tmp rfl) .nil) rfl rfl rfl
def leqOperatorBook (a0 : TOperatorBook) (a1 : TOperatorBook) : Option Bool :=
  bif !eqB a0.Network a1.Network then (some false) else (Option.bind (leqUsageRecordS a0.Own a1.Own) fun r1 => bif !r1 then (some false) else (Option.bind (leqUsageRecordS a0.Claims a1.Claims) fun r2 => bif !r2 then (some false) else (some true)))
theorem leqOperatorBook_c {a0 : TOperatorBook} {a1 : TOperatorBook} {r : Bool} (H : leqOperatorBook a0 a1 = some r) : Fn Try.prog 119 [.agg (eTOperatorBook a0), .agg (eTOperatorBook a1)] [.c (.d (.b r))] := by
  refine fn_in Try.func119 rfl (by kernel_rfl) Try.ntmps119 rfl rfl rfl ?_
  refine wk ?_
  refine awc_cond rfl (fun h => ?_) (fun h => ?_)
  · have H := bt h H
    refine wk ?_
    cases H
    exact fin_ret (.cons (.tmp rfl) .nil) rfl rfl rfl
  · have H := bf h H
    refine wk ?_
    obtain ⟨r1, hr1, H⟩ := ob H
    refine awr_n rfl (ca rfl rfl rfl (leqUsageRecordS_c hr1) trivial rfl rfl rfl rfl) ?_
    refine wk ?_
    refine awc_cond rfl (fun h => ?_) (fun h => ?_)
    · have H := bt h H
      refine wk ?_
      cases H
      exact fin_ret (.cons (.tmp rfl) .nil) rfl rfl rfl
    · have H := bf h H
      refine wk ?_
      obtain ⟨r2, hr2, H⟩ := ob H
      refine awr_n rfl (ca rfl rfl rfl (leqUsageRecordS_c hr2) trivial rfl rfl rfl rfl) ?_
      refine wk ?_
      refine awc_cond rfl (fun h => ?_) (fun h => ?_)
      · have H := bt h H
        refine wk ?_
        cases H
        exact fin_ret (.cons (.tmp rfl) .nil) rfl rfl rfl
      · have H := bf h H
        refine wk ?_
        cases H
        exact fin_ret (.cons (.tmp rfl) .nil) rfl rfl rfl
def leqOperatorBookS_L1 (a0 : List TOperatorBook) (a1 : List TOperatorBook) : Int → Option (Step (Int) (Bool))
  | v1 => bif ltB v1 ((a0.length : Nat) : Int) then (Option.bind (ix a0 v1) fun x2 => Option.bind (ix a1 v1) fun x3 => Option.bind (leqOperatorBook x2 x3) fun r4 => bif !r4 then (dn (some false)) else (some (.next (WR (v1 + 1))))) else (dn (some true))
def leqOperatorBookS (a0 : List TOperatorBook) (a1 : List TOperatorBook) : Option Bool :=
  bif !eqB ((a0.length : Nat) : Int) ((a1.length : Nat) : Int) then (some false) else (iter (leqOperatorBookS_L1 a0 a1) FU 0)
theorem leqOperatorBookS_c {a0 : List TOperatorBook} {a1 : List TOperatorBook} {r : Bool} (H : leqOperatorBookS a0 a1 = some r) : Fn Try.prog 60 [aL (a0.map eTOperatorBook), aL (a1.map eTOperatorBook)] [.c (.d (.b r))] := by
  refine fn_in Try.func60 rfl (by kernel_rfl) Try.ntmps60 rfl rfl rfl ?_
  refine wkd ?_
  refine awc_cond rfl (fun h => ?_) (fun h => ?_)
  · have H := bt h H
    refine wkd ?_
    cases H
    exact fin_ret (.cons (.tmp rfl) .nil) rfl rfl rfl
  · have H := bf h H
    refine wkd ?_
    refine awc_iter (fun (q : Int) => ⟨[(0, .v (.c (.d false (.l (a0.map eTOperatorBook))))), (1, .v (.c (.d false (.l (a1.map eTOperatorBook))))), (5, tI q)], [], 0⟩) H (weak_of ⟨rfl, rfl, rfl, rfl, rfl, rfl, trivial⟩ trivial) ?_
    rintro v1 o H
    try dsimp only
    refine wkd ?_
    refine awc_cond rfl (fun h => ?_) (fun h => ?_)
    · have H := bt h H
      refine wkd ?_
      obtain ⟨x2, hx2, H⟩ := ob H
      refine dr_n rfl (xdT (enc := eTOperatorBook) hx2 (fun _ => rfl) rfl rfl rfl) ?_
      refine wkd ?_
      obtain ⟨x3, hx3, H⟩ := ob H
      refine dr_n rfl (xdT (enc := eTOperatorBook) hx3 (fun _ => rfl) rfl rfl rfl) ?_
      refine wkd ?_
      obtain ⟨r4, hr4, H⟩ := ob H
      refine dr_n rfl (ca rfl rfl rfl (leqOperatorBook_c hr4) trivial rfl rfl rfl rfl) ?_
      refine wkd ?_
      refine awc_cond rfl (fun h => ?_) (fun h => ?_)
      · have H := bt h H
        refine wkd ?_
        obtain ⟨r0, Hd, rfl⟩ := dnE H
        refine iq_r (fun hq => ?_)
        have H := Hd.trans (congrArg some hq)
        refine wkd ?_
        cases H
        exact fin_ret (.cons (.tmp rfl) .nil) rfl rfl rfl
      · have H := bf h H
        refine wkd ?_
        cases H
        refine iq_n ?_
        exact weak_of ⟨rfl, rfl, rfl, rfl, rfl, rfl, trivial⟩ trivial
    · have H := bf h H
      refine wkd ?_
      obtain ⟨r0, Hd, rfl⟩ := dnE H
      refine iq_e (fun hq => ?_)
      have H := Hd.trans (congrArg some hq)
      refine wkd ?_
      cases H
      exact fin_ret (.cons (.tmp rfl) .nil) rfl rfl rfl
def leqRoamingAgreement (a0 : TRoamingAgreement) (a1 : TRoamingAgreement) : Option Bool :=
  bif !eqB a0.Home a1.Home then (some false) else (bif !eqB a0.Visited a1.Visited then (some false) else (bif !eqB a0.Price a1.Price then (some false) else (bif !eqB a0.Cap a1.Cap then (some false) else (some true))))
theorem leqRoamingAgreement_c {a0 : TRoamingAgreement} {a1 : TRoamingAgreement} {r : Bool} (H : leqRoamingAgreement a0 a1 = some r) : Fn Try.prog 120 [.agg (eTRoamingAgreement a0), .agg (eTRoamingAgreement a1)] [.c (.d (.b r))] := by
  refine fn_in Try.func120 rfl (by kernel_rfl) Try.ntmps120 rfl rfl rfl ?_
  refine wk ?_
  refine awc_cond rfl (fun h => ?_) (fun h => ?_)
  · have H := bt h H
    refine wk ?_
    cases H
    exact fin_ret (.cons (.tmp rfl) .nil) rfl rfl rfl
  · have H := bf h H
    refine wk ?_
    refine awc_cond rfl (fun h => ?_) (fun h => ?_)
    · have H := bt h H
      refine wk ?_
      cases H
      exact fin_ret (.cons (.tmp rfl) .nil) rfl rfl rfl
    · have H := bf h H
      refine wk ?_
      refine awc_cond rfl (fun h => ?_) (fun h => ?_)
      · have H := bt h H
        refine wk ?_
        cases H
        exact fin_ret (.cons (.tmp rfl) .nil) rfl rfl rfl
      · have H := bf h H
        refine wk ?_
        refine awc_cond rfl (fun h => ?_) (fun h => ?_)
        · have H := bt h H
          refine wk ?_
          cases H
          exact fin_ret (.cons (.tmp rfl) .nil) rfl rfl rfl
        · have H := bf h H
          refine wk ?_
          cases H
          exact fin_ret (.cons (.tmp rfl) .nil) rfl rfl rfl
def leqRoamingAgreementS_L1 (a0 : List TRoamingAgreement) (a1 : List TRoamingAgreement) : Int → Option (Step (Int) (Bool))
  | v1 => bif ltB v1 ((a0.length : Nat) : Int) then (Option.bind (ix a0 v1) fun x2 => Option.bind (ix a1 v1) fun x3 => Option.bind (leqRoamingAgreement x2 x3) fun r4 => bif !r4 then (dn (some false)) else (some (.next (WR (v1 + 1))))) else (dn (some true))
def leqRoamingAgreementS (a0 : List TRoamingAgreement) (a1 : List TRoamingAgreement) : Option Bool :=
  bif !eqB ((a0.length : Nat) : Int) ((a1.length : Nat) : Int) then (some false) else (iter (leqRoamingAgreementS_L1 a0 a1) FU 0)
theorem leqRoamingAgreementS_c {a0 : List TRoamingAgreement} {a1 : List TRoamingAgreement} {r : Bool} (H : leqRoamingAgreementS a0 a1 = some r) : Fn Try.prog 61 [aL (a0.map eTRoamingAgreement), aL (a1.map eTRoamingAgreement)] [.c (.d (.b r))] := by
  refine fn_in Try.func61 rfl (by kernel_rfl) Try.ntmps61 rfl rfl rfl ?_
  refine wkd ?_
  refine awc_cond rfl (fun h => ?_) (fun h => ?_)
  · have H := bt h H
    refine wkd ?_
    cases H
    exact fin_ret (.cons (.tmp rfl) .nil) rfl rfl rfl
  · have H := bf h H
    refine wkd ?_
    refine awc_iter (fun (q : Int) => ⟨[(0, .v (.c (.d false (.l (a0.map eTRoamingAgreement))))), (1, .v (.c (.d false (.l (a1.map eTRoamingAgreement))))), (5, tI q)], [], 0⟩) H (weak_of ⟨rfl, rfl, rfl, rfl, rfl, rfl, trivial⟩ trivial) ?_
    rintro v1 o H
    try dsimp only
    refine wkd ?_
    refine awc_cond rfl (fun h => ?_) (fun h => ?_)
    · have H := bt h H
      refine wkd ?_
      obtain ⟨x2, hx2, H⟩ := ob H
      refine dr_n rfl (xdT (enc := eTRoamingAgreement) hx2 (fun _ => rfl) rfl rfl rfl) ?_
      refine wkd ?_
      obtain ⟨x3, hx3, H⟩ := ob H
      refine dr_n rfl (xdT (enc := eTRoamingAgreement) hx3 (fun _ => rfl) rfl rfl rfl) ?_
      refine wkd ?_
      obtain ⟨r4, hr4, H⟩ := ob H
      refine dr_n rfl (ca rfl rfl rfl (leqRoamingAgreement_c hr4) trivial rfl rfl rfl rfl) ?_
      refine wkd ?_
      refine awc_cond rfl (fun h => ?_) (fun h => ?_)
      · have H := bt h H
        refine wkd ?_
        obtain ⟨r0, Hd, rfl⟩ := dnE H
        refine iq_r (fun hq => ?_)
        have H := Hd.trans (congrArg some hq)
        refine wkd ?_
        cases H
        exact fin_ret (.cons (.tmp rfl) .nil) rfl rfl rfl
      · have H := bf h H
        refine wkd ?_
        cases H
        refine iq_n ?_
        exact weak_of ⟨rfl, rfl, rfl, rfl, rfl, rfl, trivial⟩ trivial
    · have H := bf h H
      refine wkd ?_
      obtain ⟨r0, Hd, rfl⟩ := dnE H
      refine iq_e (fun hq => ?_)
      have H := Hd.trans (congrArg some hq)
      refine wkd ?_
      cases H
      exact fin_ret (.cons (.tmp rfl) .nil) rfl rfl rfl
def lmarkUsageRecordS_z_L1 (a0 : List TUsageRecord) : (Int × Int) → Option (Step (Int × Int) (Int))
  | (v1, v2) => bif ltB v2 ((a0.length : Nat) : Int) then (Option.bind (ix a0 v2) fun x8 => Option.bind (ix a0 v2) fun x9 => Option.bind (ix a0 v2) fun x10 => Option.bind (ix a0 v2) fun x11 => some (.next (WR ((WR ((WR ((WR (v1 + 1)) + 1)) + 1)) + 1), WR (v2 + 1)))) else (some (.done v1))
def lmarkUsageRecordS_z (a0 : List TUsageRecord) (a1 : Int) : Option Int :=
  Option.bind (iter (lmarkUsageRecordS_z_L1 a0) FU (a1, 0)) fun (v7 : Int) => some v7
theorem lmarkUsageRecordS_z_c {a0 : List TUsageRecord} {a1 : Int} {r : Int} (H : lmarkUsageRecordS_z a0 a1 = some r) : FnM Try.prog 121 [.v (.c (.z (.l (a0.map eTUsageRecord)))), tI a1] r := by
  refine fn_inM Try.func121 rfl (by kernel_rfl) Try.ntmps121 rfl rfl rfl ?_
  refine wk ?_
  obtain ⟨v7, Hj, H⟩ := ob H
  refine awc_jblk ⟨[(1, tI v7)], [], 0⟩ ?_ ?_
  · refine wk ?_
    refine awc_iter (fun (q : Int × Int) => ⟨[(0, .v (.c (.z (.l (a0.map eTUsageRecord))))), (1, tI q.1), (5, tI q.2)], [], 0⟩) Hj (weak_of ⟨rfl, rfl, rfl, rfl, rfl, rfl, trivial⟩ trivial) ?_
    rintro ⟨v1, v2⟩ o H
    try dsimp only
    refine wk ?_
    refine awc_cond rfl (fun h => ?_) (fun h => ?_)
    · have H := bt h H
      refine wk ?_
      obtain ⟨x8, hx8, H⟩ := ob H
      refine awr_n rfl (xzT (enc := eTUsageRecord) hx8 (fun _ => rfl) rfl rfl rfl) ?_
      refine wk ?_
      obtain ⟨x9, hx9, H⟩ := ob H
      refine awr_n rfl (xzT (enc := eTUsageRecord) hx9 (fun _ => rfl) rfl rfl rfl) ?_
      refine wk ?_
      obtain ⟨x10, hx10, H⟩ := ob H
      refine awr_n rfl (xzT (enc := eTUsageRecord) hx10 (fun _ => rfl) rfl rfl rfl) ?_
      refine wk ?_
      obtain ⟨x11, hx11, H⟩ := ob H
      refine awr_n rfl (xzT (enc := eTUsageRecord) hx11 (fun _ => rfl) rfl rfl rfl) ?_
      refine wk ?_
      cases H
      refine iq_n ?_
      exact weak_of ⟨rfl, rfl, rfl, rfl, rfl, rfl, trivial⟩ trivial
    · have H := bf h H
      refine wk ?_
      cases H
      refine iq_e (fun hq => ?_)
      cases hq
      refine wk ?_
      exact weak_of ⟨rfl, rfl, trivial⟩ trivial
  refine wk ?_
  cases H
  exact fin_ret (.cons (.tmp rfl) .nil) rfl rfl rfl
def lmarkUsageRecordS_L1  : (Int × Int × List TUsageRecord) → Option (Step (Int × Int × List TUsageRecord) (Int × List TUsageRecord))
  | (v1, v2, v3) => bif ltB v2 ((v3.length : Nat) : Int) then (Option.bind (ix v3 v2) fun x10 => Option.bind (ix (v3.set (v2).toNat (⟨v1, x10.SessionID, x10.Seq, x10.Bytes⟩ : TUsageRecord)) v2) fun x11 => Option.bind (ix ((v3.set (v2).toNat (⟨v1, x10.SessionID, x10.Seq, x10.Bytes⟩ : TUsageRecord)).set (v2).toNat (⟨x11.Network, WR (v1 + 1), x11.Seq, x11.Bytes⟩ : TUsageRecord)) v2) fun x12 => Option.bind (ix (((v3.set (v2).toNat (⟨v1, x10.SessionID, x10.Seq, x10.Bytes⟩ : TUsageRecord)).set (v2).toNat (⟨x11.Network, WR (v1 + 1), x11.Seq, x11.Bytes⟩ : TUsageRecord)).set (v2).toNat (⟨x12.Network, x12.SessionID, WR ((WR (v1 + 1)) + 1), x12.Bytes⟩ : TUsageRecord)) v2) fun x13 => some (.next (WR ((WR ((WR ((WR (v1 + 1)) + 1)) + 1)) + 1), WR (v2 + 1), ((((v3.set (v2).toNat (⟨v1, x10.SessionID, x10.Seq, x10.Bytes⟩ : TUsageRecord)).set (v2).toNat (⟨x11.Network, WR (v1 + 1), x11.Seq, x11.Bytes⟩ : TUsageRecord)).set (v2).toNat (⟨x12.Network, x12.SessionID, WR ((WR (v1 + 1)) + 1), x12.Bytes⟩ : TUsageRecord)).set (v2).toNat (⟨x13.Network, x13.SessionID, x13.Seq, WR ((WR ((WR (v1 + 1)) + 1)) + 1)⟩ : TUsageRecord))))) else (some (.done (v1, v3)))
def lmarkUsageRecordS (a0 : List TUsageRecord) (a1 : Int) : Option (Int × List TUsageRecord) :=
  Option.bind (iter (lmarkUsageRecordS_L1) FU (a1, 0, a0)) fun ((v8, v9) : Int × List TUsageRecord) => some (v8, v9)
theorem lmarkUsageRecordS_c {a0 : List TUsageRecord} {a1 : Int} {r : Int × List TUsageRecord} (H : lmarkUsageRecordS a0 a1 = some r) : FnW Try.prog 121 (.row 183 4 (a0.map eTUsageRecord) false true) [.v (.c (.w 200 a0.length)), tI a1] (.row 183 4 (r.2.map eTUsageRecord) false true) [.c (.d (.i .i64 r.1))] := by
  refine fn_inW Try.func121 rfl (by kernel_rfl) Try.ntmps121 rfl rfl rfl rfl rfl ?_
  refine wk ?_
  obtain ⟨⟨v8, v9⟩, Hj, H⟩ := ob H
  refine awc_jblk ⟨[(1, tI v8)], [(200, .row 183 4 (v9.map eTUsageRecord) false true)], 210⟩ ?_ ?_
  · refine wk ?_
    refine awc_iter (fun (q : Int × Int × List TUsageRecord) => ⟨[(0, .v (.c (.w 200 q.2.2.length))), (1, tI q.1), (5, tI q.2.1)], [(200, .row 183 4 (q.2.2.map eTUsageRecord) false true)], 210⟩) Hj (weak_of ⟨wn rfl (by first | rfl | simp), rfl, rfl, rfl, rfl, rfl, trivial⟩ ⟨rfl, ⟨rfl, rfl⟩, trivial⟩) ?_
    rintro ⟨v1, v2, v3⟩ o H
    try dsimp only
    refine wk ?_
    refine awc_cond rfl (fun h => ?_) (fun h => ?_)
    · have H := bt h H
      refine wk ?_
      obtain ⟨x10, hx10, H⟩ := ob H
      refine awr_n rfl (xwT hx10 (by first | rfl | simp) rfl rfl rfl) ?_
      refine wk ?_
      refine awr_step rfl (soT (enc := eTUsageRecord) (a' := (⟨v1, x10.SessionID, x10.Seq, x10.Bytes⟩ : TUsageRecord)) hx10 rfl rfl rfl rfl rfl rfl rfl) ?_
      refine wk ?_
      obtain ⟨x11, hx11, H⟩ := ob H
      refine awr_n rfl (xwT hx11 (by first | rfl | simp) rfl rfl rfl) ?_
      refine wk ?_
      refine awr_step rfl (soT (enc := eTUsageRecord) (a' := (⟨x11.Network, WR (v1 + 1), x11.Seq, x11.Bytes⟩ : TUsageRecord)) hx11 rfl rfl rfl rfl rfl rfl rfl) ?_
      refine wk ?_
      obtain ⟨x12, hx12, H⟩ := ob H
      refine awr_n rfl (xwT hx12 (by first | rfl | simp) rfl rfl rfl) ?_
      refine wk ?_
      refine awr_step rfl (soT (enc := eTUsageRecord) (a' := (⟨x12.Network, x12.SessionID, WR ((WR (v1 + 1)) + 1), x12.Bytes⟩ : TUsageRecord)) hx12 rfl rfl rfl rfl rfl rfl rfl) ?_
      refine wk ?_
      obtain ⟨x13, hx13, H⟩ := ob H
      refine awr_n rfl (xwT hx13 (by first | rfl | simp) rfl rfl rfl) ?_
      refine wk ?_
      refine awr_step rfl (soT (enc := eTUsageRecord) (a' := (⟨x13.Network, x13.SessionID, x13.Seq, WR ((WR ((WR (v1 + 1)) + 1)) + 1)⟩ : TUsageRecord)) hx13 rfl rfl rfl rfl rfl rfl rfl) ?_
      refine wk ?_
      cases H
      refine iq_n ?_
      exact weak_of ⟨wn rfl (by first | rfl | simp), rfl, rfl, rfl, rfl, rfl, trivial⟩ ⟨rfl, ⟨rfl, rfl⟩, trivial⟩
    · have H := bf h H
      refine wk ?_
      cases H
      refine iq_e (fun hq => ?_)
      cases hq
      refine wk ?_
      exact weak_of ⟨rfl, rfl, trivial⟩ ⟨rfl, ⟨rfl, rfl⟩, trivial⟩
  refine wk ?_
  cases H
  exact fin_retW (.cons (.tmp rfl) .nil) rfl rfl rfl rfl (by first | rfl | simp)
def lmarkOperatorBookS_z_L1 (a0 : List TOperatorBook) : (Int × Int) → Option (Step (Int × Int) (Int))
  | (v1, v2) => bif ltB v2 ((a0.length : Nat) : Int) then (Option.bind (ix a0 v2) fun x9 => Option.bind (ix a0 v2) fun x10 => Option.bind (lmarkUsageRecordS_z x10.Own (WR (v1 + 1))) fun r11 => Option.bind (ix a0 v2) fun x12 => Option.bind (lmarkUsageRecordS_z x12.Claims r11) fun r13 => some (.next (r13, WR (v2 + 1)))) else (some (.done v1))
def lmarkOperatorBookS_z (a0 : List TOperatorBook) (a1 : Int) : Option Int :=
  Option.bind (iter (lmarkOperatorBookS_z_L1 a0) FU (a1, 0)) fun (v8 : Int) => some v8
theorem lmarkOperatorBookS_z_c {a0 : List TOperatorBook} {a1 : Int} {r : Int} (H : lmarkOperatorBookS_z a0 a1 = some r) : FnM Try.prog 62 [.v (.c (.z (.l (a0.map eTOperatorBook)))), tI a1] r := by
  refine fn_inM Try.func62 rfl (by kernel_rfl) Try.ntmps62 rfl rfl rfl ?_
  refine wk ?_
  obtain ⟨v8, Hj, H⟩ := ob H
  refine awc_jblk ⟨[(1, tI v8)], [], 0⟩ ?_ ?_
  · refine wk ?_
    refine awc_iter (fun (q : Int × Int) => ⟨[(0, .v (.c (.z (.l (a0.map eTOperatorBook))))), (1, tI q.1), (5, tI q.2)], [], 0⟩) Hj (weak_of ⟨rfl, rfl, rfl, rfl, rfl, rfl, trivial⟩ trivial) ?_
    rintro ⟨v1, v2⟩ o H
    try dsimp only
    refine wk ?_
    refine awc_cond rfl (fun h => ?_) (fun h => ?_)
    · have H := bt h H
      refine wk ?_
      obtain ⟨x9, hx9, H⟩ := ob H
      refine awr_n rfl (xzT (enc := eTOperatorBook) hx9 (fun _ => rfl) rfl rfl rfl) ?_
      refine wk ?_
      obtain ⟨x10, hx10, H⟩ := ob H
      refine awr_n rfl (xzT (enc := eTOperatorBook) hx10 (fun _ => rfl) rfl rfl rfl) ?_
      refine wk ?_
      obtain ⟨r11, hr11, H⟩ := ob H
      refine awr_step rfl (cz rfl (lmarkUsageRecordS_z_c hr11) rfl rfl) ?_
      refine wk ?_
      obtain ⟨x12, hx12, H⟩ := ob H
      refine awr_n rfl (xzT (enc := eTOperatorBook) hx12 (fun _ => rfl) rfl rfl rfl) ?_
      refine wk ?_
      obtain ⟨r13, hr13, H⟩ := ob H
      refine awr_step rfl (cz rfl (lmarkUsageRecordS_z_c hr13) rfl rfl) ?_
      refine wk ?_
      cases H
      refine iq_n ?_
      exact weak_of ⟨rfl, rfl, rfl, rfl, rfl, rfl, trivial⟩ trivial
    · have H := bf h H
      refine wk ?_
      cases H
      refine iq_e (fun hq => ?_)
      cases hq
      refine wk ?_
      exact weak_of ⟨rfl, rfl, trivial⟩ trivial
  refine wk ?_
  cases H
  exact fin_ret (.cons (.tmp rfl) .nil) rfl rfl rfl
def lmarkRoamingAgreementS_z_L1 (a0 : List TRoamingAgreement) : (Int × Int) → Option (Step (Int × Int) (Int))
  | (v1, v2) => bif ltB v2 ((a0.length : Nat) : Int) then (Option.bind (ix a0 v2) fun x8 => Option.bind (ix a0 v2) fun x9 => Option.bind (ix a0 v2) fun x10 => Option.bind (ix a0 v2) fun x11 => some (.next (WR ((WR ((WR ((WR (v1 + 1)) + 1)) + 1)) + 1), WR (v2 + 1)))) else (some (.done v1))
def lmarkRoamingAgreementS_z (a0 : List TRoamingAgreement) (a1 : Int) : Option Int :=
  Option.bind (iter (lmarkRoamingAgreementS_z_L1 a0) FU (a1, 0)) fun (v7 : Int) => some v7
theorem lmarkRoamingAgreementS_z_c {a0 : List TRoamingAgreement} {a1 : Int} {r : Int} (H : lmarkRoamingAgreementS_z a0 a1 = some r) : FnM Try.prog 63 [.v (.c (.z (.l (a0.map eTRoamingAgreement)))), tI a1] r := by
  refine fn_inM Try.func63 rfl (by kernel_rfl) Try.ntmps63 rfl rfl rfl ?_
  refine wk ?_
  obtain ⟨v7, Hj, H⟩ := ob H
  refine awc_jblk ⟨[(1, tI v7)], [], 0⟩ ?_ ?_
  · refine wk ?_
    refine awc_iter (fun (q : Int × Int) => ⟨[(0, .v (.c (.z (.l (a0.map eTRoamingAgreement))))), (1, tI q.1), (5, tI q.2)], [], 0⟩) Hj (weak_of ⟨rfl, rfl, rfl, rfl, rfl, rfl, trivial⟩ trivial) ?_
    rintro ⟨v1, v2⟩ o H
    try dsimp only
    refine wk ?_
    refine awc_cond rfl (fun h => ?_) (fun h => ?_)
    · have H := bt h H
      refine wk ?_
      obtain ⟨x8, hx8, H⟩ := ob H
      refine awr_n rfl (xzT (enc := eTRoamingAgreement) hx8 (fun _ => rfl) rfl rfl rfl) ?_
      refine wk ?_
      obtain ⟨x9, hx9, H⟩ := ob H
      refine awr_n rfl (xzT (enc := eTRoamingAgreement) hx9 (fun _ => rfl) rfl rfl rfl) ?_
      refine wk ?_
      obtain ⟨x10, hx10, H⟩ := ob H
      refine awr_n rfl (xzT (enc := eTRoamingAgreement) hx10 (fun _ => rfl) rfl rfl rfl) ?_
      refine wk ?_
      obtain ⟨x11, hx11, H⟩ := ob H
      refine awr_n rfl (xzT (enc := eTRoamingAgreement) hx11 (fun _ => rfl) rfl rfl rfl) ?_
      refine wk ?_
      cases H
      refine iq_n ?_
      exact weak_of ⟨rfl, rfl, rfl, rfl, rfl, rfl, trivial⟩ trivial
    · have H := bf h H
      refine wk ?_
      cases H
      refine iq_e (fun hq => ?_)
      cases hq
      refine wk ?_
      exact weak_of ⟨rfl, rfl, trivial⟩ trivial
  refine wk ?_
  cases H
  exact fin_ret (.cons (.tmp rfl) .nil) rfl rfl rfl
def lmarkRoamingAgreementS_L1  : (Int × Int × List TRoamingAgreement) → Option (Step (Int × Int × List TRoamingAgreement) (Int × List TRoamingAgreement))
  | (v1, v2, v3) => bif ltB v2 ((v3.length : Nat) : Int) then (Option.bind (ix v3 v2) fun x10 => Option.bind (ix (v3.set (v2).toNat (⟨v1, x10.Visited, x10.Price, x10.Cap⟩ : TRoamingAgreement)) v2) fun x11 => Option.bind (ix ((v3.set (v2).toNat (⟨v1, x10.Visited, x10.Price, x10.Cap⟩ : TRoamingAgreement)).set (v2).toNat (⟨x11.Home, WR (v1 + 1), x11.Price, x11.Cap⟩ : TRoamingAgreement)) v2) fun x12 => Option.bind (ix (((v3.set (v2).toNat (⟨v1, x10.Visited, x10.Price, x10.Cap⟩ : TRoamingAgreement)).set (v2).toNat (⟨x11.Home, WR (v1 + 1), x11.Price, x11.Cap⟩ : TRoamingAgreement)).set (v2).toNat (⟨x12.Home, x12.Visited, WR ((WR (v1 + 1)) + 1), x12.Cap⟩ : TRoamingAgreement)) v2) fun x13 => some (.next (WR ((WR ((WR ((WR (v1 + 1)) + 1)) + 1)) + 1), WR (v2 + 1), ((((v3.set (v2).toNat (⟨v1, x10.Visited, x10.Price, x10.Cap⟩ : TRoamingAgreement)).set (v2).toNat (⟨x11.Home, WR (v1 + 1), x11.Price, x11.Cap⟩ : TRoamingAgreement)).set (v2).toNat (⟨x12.Home, x12.Visited, WR ((WR (v1 + 1)) + 1), x12.Cap⟩ : TRoamingAgreement)).set (v2).toNat (⟨x13.Home, x13.Visited, x13.Price, WR ((WR ((WR (v1 + 1)) + 1)) + 1)⟩ : TRoamingAgreement))))) else (some (.done (v1, v3)))
def lmarkRoamingAgreementS (a0 : List TRoamingAgreement) (a1 : Int) : Option (Int × List TRoamingAgreement) :=
  Option.bind (iter (lmarkRoamingAgreementS_L1) FU (a1, 0, a0)) fun ((v8, v9) : Int × List TRoamingAgreement) => some (v8, v9)
theorem lmarkRoamingAgreementS_c {a0 : List TRoamingAgreement} {a1 : Int} {r : Int × List TRoamingAgreement} (H : lmarkRoamingAgreementS a0 a1 = some r) : FnW Try.prog 63 (.row 62 4 (a0.map eTRoamingAgreement) false true) [.v (.c (.w 200 a0.length)), tI a1] (.row 62 4 (r.2.map eTRoamingAgreement) false true) [.c (.d (.i .i64 r.1))] := by
  refine fn_inW Try.func63 rfl (by kernel_rfl) Try.ntmps63 rfl rfl rfl rfl rfl ?_
  refine wk ?_
  obtain ⟨⟨v8, v9⟩, Hj, H⟩ := ob H
  refine awc_jblk ⟨[(1, tI v8)], [(200, .row 62 4 (v9.map eTRoamingAgreement) false true)], 210⟩ ?_ ?_
  · refine wk ?_
    refine awc_iter (fun (q : Int × Int × List TRoamingAgreement) => ⟨[(0, .v (.c (.w 200 q.2.2.length))), (1, tI q.1), (5, tI q.2.1)], [(200, .row 62 4 (q.2.2.map eTRoamingAgreement) false true)], 210⟩) Hj (weak_of ⟨wn rfl (by first | rfl | simp), rfl, rfl, rfl, rfl, rfl, trivial⟩ ⟨rfl, ⟨rfl, rfl⟩, trivial⟩) ?_
    rintro ⟨v1, v2, v3⟩ o H
    try dsimp only
    refine wk ?_
    refine awc_cond rfl (fun h => ?_) (fun h => ?_)
    · have H := bt h H
      refine wk ?_
      obtain ⟨x10, hx10, H⟩ := ob H
      refine awr_n rfl (xwT hx10 (by first | rfl | simp) rfl rfl rfl) ?_
      refine wk ?_
      refine awr_step rfl (soT (enc := eTRoamingAgreement) (a' := (⟨v1, x10.Visited, x10.Price, x10.Cap⟩ : TRoamingAgreement)) hx10 rfl rfl rfl rfl rfl rfl rfl) ?_
      refine wk ?_
      obtain ⟨x11, hx11, H⟩ := ob H
      refine awr_n rfl (xwT hx11 (by first | rfl | simp) rfl rfl rfl) ?_
      refine wk ?_
      refine awr_step rfl (soT (enc := eTRoamingAgreement) (a' := (⟨x11.Home, WR (v1 + 1), x11.Price, x11.Cap⟩ : TRoamingAgreement)) hx11 rfl rfl rfl rfl rfl rfl rfl) ?_
      refine wk ?_
      obtain ⟨x12, hx12, H⟩ := ob H
      refine awr_n rfl (xwT hx12 (by first | rfl | simp) rfl rfl rfl) ?_
      refine wk ?_
      refine awr_step rfl (soT (enc := eTRoamingAgreement) (a' := (⟨x12.Home, x12.Visited, WR ((WR (v1 + 1)) + 1), x12.Cap⟩ : TRoamingAgreement)) hx12 rfl rfl rfl rfl rfl rfl rfl) ?_
      refine wk ?_
      obtain ⟨x13, hx13, H⟩ := ob H
      refine awr_n rfl (xwT hx13 (by first | rfl | simp) rfl rfl rfl) ?_
      refine wk ?_
      refine awr_step rfl (soT (enc := eTRoamingAgreement) (a' := (⟨x13.Home, x13.Visited, x13.Price, WR ((WR ((WR (v1 + 1)) + 1)) + 1)⟩ : TRoamingAgreement)) hx13 rfl rfl rfl rfl rfl rfl rfl) ?_
      refine wk ?_
      cases H
      refine iq_n ?_
      exact weak_of ⟨wn rfl (by first | rfl | simp), rfl, rfl, rfl, rfl, rfl, trivial⟩ ⟨rfl, ⟨rfl, rfl⟩, trivial⟩
    · have H := bf h H
      refine wk ?_
      cases H
      refine iq_e (fun hq => ?_)
      cases hq
      refine wk ?_
      exact weak_of ⟨rfl, rfl, trivial⟩ ⟨rfl, ⟨rfl, rfl⟩, trivial⟩
  refine wk ?_
  cases H
  exact fin_retW (.cons (.tmp rfl) .nil) rfl rfl rfl rfl (by first | rfl | simp)
def lmarkStatementLineS_z_L1 (a0 : List TStatementLine) : (Int × Int) → Option (Step (Int × Int) (Int))
  | (v1, v2) => bif ltB v2 ((a0.length : Nat) : Int) then (Option.bind (ix a0 v2) fun x7 => Option.bind (ix a0 v2) fun x8 => Option.bind (ix a0 v2) fun x9 => some (.next (WR ((WR ((WR (v1 + 1)) + 1)) + 1), WR (v2 + 1)))) else (some (.done v1))
def lmarkStatementLineS_z (a0 : List TStatementLine) (a1 : Int) : Option Int :=
  Option.bind (iter (lmarkStatementLineS_z_L1 a0) FU (a1, 0)) fun (v6 : Int) => some v6
theorem lmarkStatementLineS_z_c {a0 : List TStatementLine} {a1 : Int} {r : Int} (H : lmarkStatementLineS_z a0 a1 = some r) : FnM Try.prog 64 [.v (.c (.z (.l (a0.map eTStatementLine)))), tI a1] r := by
  refine fn_inM Try.func64 rfl (by kernel_rfl) Try.ntmps64 rfl rfl rfl ?_
  refine wk ?_
  obtain ⟨v6, Hj, H⟩ := ob H
  refine awc_jblk ⟨[(1, tI v6)], [], 0⟩ ?_ ?_
  · refine wk ?_
    refine awc_iter (fun (q : Int × Int) => ⟨[(0, .v (.c (.z (.l (a0.map eTStatementLine))))), (1, tI q.1), (5, tI q.2)], [], 0⟩) Hj (weak_of ⟨rfl, rfl, rfl, rfl, rfl, rfl, trivial⟩ trivial) ?_
    rintro ⟨v1, v2⟩ o H
    try dsimp only
    refine wk ?_
    refine awc_cond rfl (fun h => ?_) (fun h => ?_)
    · have H := bt h H
      refine wk ?_
      obtain ⟨x7, hx7, H⟩ := ob H
      refine awr_n rfl (xzT (enc := eTStatementLine) hx7 (fun _ => rfl) rfl rfl rfl) ?_
      refine wk ?_
      obtain ⟨x8, hx8, H⟩ := ob H
      refine awr_n rfl (xzT (enc := eTStatementLine) hx8 (fun _ => rfl) rfl rfl rfl) ?_
      refine wk ?_
      obtain ⟨x9, hx9, H⟩ := ob H
      refine awr_n rfl (xzT (enc := eTStatementLine) hx9 (fun _ => rfl) rfl rfl rfl) ?_
      refine wk ?_
      cases H
      refine iq_n ?_
      exact weak_of ⟨rfl, rfl, rfl, rfl, rfl, rfl, trivial⟩ trivial
    · have H := bf h H
      refine wk ?_
      cases H
      refine iq_e (fun hq => ?_)
      cases hq
      refine wk ?_
      exact weak_of ⟨rfl, rfl, trivial⟩ trivial
  refine wk ?_
  cases H
  exact fin_ret (.cons (.tmp rfl) .nil) rfl rfl rfl
def lmarkStatementLineS_L1  : (Int × Int × List TStatementLine) → Option (Step (Int × Int × List TStatementLine) (Int × List TStatementLine))
  | (v1, v2, v3) => bif ltB v2 ((v3.length : Nat) : Int) then (Option.bind (ix v3 v2) fun x9 => Option.bind (ix (v3.set (v2).toNat (⟨v1, x9.Payee, x9.Amount⟩ : TStatementLine)) v2) fun x10 => Option.bind (ix ((v3.set (v2).toNat (⟨v1, x9.Payee, x9.Amount⟩ : TStatementLine)).set (v2).toNat (⟨x10.Payer, WR (v1 + 1), x10.Amount⟩ : TStatementLine)) v2) fun x11 => some (.next (WR ((WR ((WR (v1 + 1)) + 1)) + 1), WR (v2 + 1), (((v3.set (v2).toNat (⟨v1, x9.Payee, x9.Amount⟩ : TStatementLine)).set (v2).toNat (⟨x10.Payer, WR (v1 + 1), x10.Amount⟩ : TStatementLine)).set (v2).toNat (⟨x11.Payer, x11.Payee, WR ((WR (v1 + 1)) + 1)⟩ : TStatementLine))))) else (some (.done (v1, v3)))
def lmarkStatementLineS (a0 : List TStatementLine) (a1 : Int) : Option (Int × List TStatementLine) :=
  Option.bind (iter (lmarkStatementLineS_L1) FU (a1, 0, a0)) fun ((v7, v8) : Int × List TStatementLine) => some (v7, v8)
theorem lmarkStatementLineS_c {a0 : List TStatementLine} {a1 : Int} {r : Int × List TStatementLine} (H : lmarkStatementLineS a0 a1 = some r) : FnW Try.prog 64 (.row 30 3 (a0.map eTStatementLine) false true) [.v (.c (.w 200 a0.length)), tI a1] (.row 30 3 (r.2.map eTStatementLine) false true) [.c (.d (.i .i64 r.1))] := by
  refine fn_inW Try.func64 rfl (by kernel_rfl) Try.ntmps64 rfl rfl rfl rfl rfl ?_
  refine wk ?_
  obtain ⟨⟨v7, v8⟩, Hj, H⟩ := ob H
  refine awc_jblk ⟨[(1, tI v7)], [(200, .row 30 3 (v8.map eTStatementLine) false true)], 210⟩ ?_ ?_
  · refine wk ?_
    refine awc_iter (fun (q : Int × Int × List TStatementLine) => ⟨[(0, .v (.c (.w 200 q.2.2.length))), (1, tI q.1), (5, tI q.2.1)], [(200, .row 30 3 (q.2.2.map eTStatementLine) false true)], 210⟩) Hj (weak_of ⟨wn rfl (by first | rfl | simp), rfl, rfl, rfl, rfl, rfl, trivial⟩ ⟨rfl, ⟨rfl, rfl⟩, trivial⟩) ?_
    rintro ⟨v1, v2, v3⟩ o H
    try dsimp only
    refine wk ?_
    refine awc_cond rfl (fun h => ?_) (fun h => ?_)
    · have H := bt h H
      refine wk ?_
      obtain ⟨x9, hx9, H⟩ := ob H
      refine awr_n rfl (xwT hx9 (by first | rfl | simp) rfl rfl rfl) ?_
      refine wk ?_
      refine awr_step rfl (soT (enc := eTStatementLine) (a' := (⟨v1, x9.Payee, x9.Amount⟩ : TStatementLine)) hx9 rfl rfl rfl rfl rfl rfl rfl) ?_
      refine wk ?_
      obtain ⟨x10, hx10, H⟩ := ob H
      refine awr_n rfl (xwT hx10 (by first | rfl | simp) rfl rfl rfl) ?_
      refine wk ?_
      refine awr_step rfl (soT (enc := eTStatementLine) (a' := (⟨x10.Payer, WR (v1 + 1), x10.Amount⟩ : TStatementLine)) hx10 rfl rfl rfl rfl rfl rfl rfl) ?_
      refine wk ?_
      obtain ⟨x11, hx11, H⟩ := ob H
      refine awr_n rfl (xwT hx11 (by first | rfl | simp) rfl rfl rfl) ?_
      refine wk ?_
      refine awr_step rfl (soT (enc := eTStatementLine) (a' := (⟨x11.Payer, x11.Payee, WR ((WR (v1 + 1)) + 1)⟩ : TStatementLine)) hx11 rfl rfl rfl rfl rfl rfl rfl) ?_
      refine wk ?_
      cases H
      refine iq_n ?_
      exact weak_of ⟨wn rfl (by first | rfl | simp), rfl, rfl, rfl, rfl, rfl, trivial⟩ ⟨rfl, ⟨rfl, rfl⟩, trivial⟩
    · have H := bf h H
      refine wk ?_
      cases H
      refine iq_e (fun hq => ?_)
      cases hq
      refine wk ?_
      exact weak_of ⟨rfl, rfl, trivial⟩ ⟨rfl, ⟨rfl, rfl⟩, trivial⟩
  refine wk ?_
  cases H
  exact fin_retW (.cons (.tmp rfl) .nil) rfl rfl rfl rfl (by first | rfl | simp)
def lheldStatementLineS_L1 (a0 : List TStatementLine) : (Int × Int) → Option (Step (Int × Int) (Int))
  | (v1, v2) => bif ltB v2 ((a0.length : Nat) : Int) then (Option.bind (ix a0 v2) fun x3 => bif !eqB x3.Payer v1 then (dn (some (-1))) else (Option.bind (ix a0 v2) fun x4 => bif !eqB x4.Payee (WR (v1 + 1)) then (dn (some (-1))) else (Option.bind (ix a0 v2) fun x5 => bif !eqB x5.Amount (WR ((WR (v1 + 1)) + 1)) then (dn (some (-1))) else (some (.next (WR ((WR ((WR (v1 + 1)) + 1)) + 1), WR (v2 + 1))))))) else (dn (some v1))
def lheldStatementLineS (a0 : List TStatementLine) (a1 : Int) : Option Int :=
  iter (lheldStatementLineS_L1 a0) FU (a1, 0)
theorem lheldStatementLineS_c {a0 : List TStatementLine} {a1 : Int} {r : Int} (H : lheldStatementLineS a0 a1 = some r) : Fn Try.prog 65 [aL (a0.map eTStatementLine), aI a1] [.c (.d (.i .i64 r))] := by
  refine fn_in Try.func65 rfl (by kernel_rfl) Try.ntmps65 rfl rfl rfl ?_
  refine wk ?_
  refine awc_iter (fun (q : Int × Int) => ⟨[(0, .v (.c (.d false (.l (a0.map eTStatementLine))))), (1, tI q.1), (5, tI q.2)], [], 0⟩) H (weak_of ⟨rfl, rfl, rfl, rfl, rfl, rfl, trivial⟩ trivial) ?_
  rintro ⟨v1, v2⟩ o H
  try dsimp only
  refine wk ?_
  refine awc_cond rfl (fun h => ?_) (fun h => ?_)
  · have H := bt h H
    refine wk ?_
    obtain ⟨x3, hx3, H⟩ := ob H
    refine awr_n rfl (xdT (enc := eTStatementLine) hx3 (fun _ => rfl) rfl rfl rfl) ?_
    refine wk ?_
    refine awc_cond rfl (fun h => ?_) (fun h => ?_)
    · have H := bt h H
      refine wk ?_
      obtain ⟨r0, Hd, rfl⟩ := dnE H
      refine iq_r (fun hq => ?_)
      have H := Hd.trans (congrArg some hq)
      refine wk ?_
      cases H
      exact fin_ret (.cons (.tmp rfl) .nil) rfl rfl rfl
    · have H := bf h H
      refine wk ?_
      obtain ⟨x4, hx4, H⟩ := ob H
      refine awr_n rfl (xdT (enc := eTStatementLine) hx4 (fun _ => rfl) rfl rfl rfl) ?_
      refine wk ?_
      refine awc_cond rfl (fun h => ?_) (fun h => ?_)
      · have H := bt h H
        refine wk ?_
        obtain ⟨r0, Hd, rfl⟩ := dnE H
        refine iq_r (fun hq => ?_)
        have H := Hd.trans (congrArg some hq)
        refine wk ?_
        cases H
        exact fin_ret (.cons (.tmp rfl) .nil) rfl rfl rfl
      · have H := bf h H
        refine wk ?_
        obtain ⟨x5, hx5, H⟩ := ob H
        refine awr_n rfl (xdT (enc := eTStatementLine) hx5 (fun _ => rfl) rfl rfl rfl) ?_
        refine wk ?_
        refine awc_cond rfl (fun h => ?_) (fun h => ?_)
        · have H := bt h H
          refine wk ?_
          obtain ⟨r0, Hd, rfl⟩ := dnE H
          refine iq_r (fun hq => ?_)
          have H := Hd.trans (congrArg some hq)
          refine wk ?_
          cases H
          exact fin_ret (.cons (.tmp rfl) .nil) rfl rfl rfl
        · have H := bf h H
          refine wk ?_
          cases H
          refine iq_n ?_
          exact weak_of ⟨rfl, rfl, rfl, rfl, rfl, rfl, trivial⟩ trivial
  · have H := bf h H
    refine wk ?_
    obtain ⟨r0, Hd, rfl⟩ := dnE H
    refine iq_e (fun hq => ?_)
    have H := Hd.trans (congrArg some hq)
    refine wk ?_
    cases H
    exact fin_ret (.cons (.tmp rfl) .nil) rfl rfl rfl
end Go.AM
