/-
  Own text: a part of the abstract machine for this seat (Gcm). No statement is proved here.
-/
import Derived.Test.YtlmhnjhknfcpgaaGcg
set_option linter.unusedVariables false
namespace Go.AM
open Go.Proofs
attribute [local irreducible] AWN NS AWO AWR AWC DR Weak iterQ
set_option maxRecDepth 100000
set_option maxHeartbeats 4000000
def lszIntS (a0 : List Int) (a1 : Int) : Option Int :=
  bif ltB (WR (a1 - ((a0.length : Nat) : Int))) 0 then (some (-1)) else (some (WR (a1 - ((a0.length : Nat) : Int))))
theorem lszIntS_c {a0 : List Int} {a1 : Int} {r : Int} (H : lszIntS a0 a1 = some r) : Fn Try.prog 111 [aL (a0.map eI), aI a1] [.c (.d (.i .i64 r))] := by
  refine fn_in Try.func111 rfl (by kernel_rfl) Try.ntmps111 rfl rfl rfl ?_
  refine wk ?_
  refine awc_cond rfl (fun h => ?_) (fun h => ?_)
  · have H := bt h H
    refine wk ?_
    cases H
    exact fin_ret (.cons (.tmp rfl) .nil) rfl rfl rfl
  · have H := bf h H
    refine wk ?_
    cases H
    exact fin_ret (.cons (.tmp rfl) .nil) rfl rfl rfl
def lszKeyPath (a0 : TKeyPath) (a1 : Int) : Option Int :=
  Option.bind (lszIntS a0.Steps a1) fun r1 => bif ltB r1 0 then (some (-1)) else (some r1)
theorem lszKeyPath_c {a0 : TKeyPath} {a1 : Int} {r : Int} (H : lszKeyPath a0 a1 = some r) : Fn Try.prog 137 [.agg (eTKeyPath a0), aI a1] [.c (.d (.i .i64 r))] := by
  refine fn_in Try.func137 rfl (by kernel_rfl) Try.ntmps137 rfl rfl rfl ?_
  refine wk ?_
  obtain ⟨r1, hr1, H⟩ := ob H
  refine awr_n rfl (ca rfl rfl rfl (lszIntS_c hr1) trivial rfl rfl rfl rfl) ?_
  refine wk ?_
  refine awc_cond rfl (fun h => ?_) (fun h => ?_)
  · have H := bt h H
    refine wk ?_
    cases H
    exact fin_ret (.cons (.tmp rfl) .nil) rfl rfl rfl
  · have H := bf h H
    refine wk ?_
    cases H
    exact fin_ret (.cons (.tmp rfl) .nil) rfl rfl rfl
def lszLeakedKey (a0 : TLeakedKey) (a1 : Int) : Option Int :=
  Option.bind (lszKeyPath a0.Path a1) fun r1 => bif ltB r1 0 then (some (-1)) else (some r1)
theorem lszLeakedKey_c {a0 : TLeakedKey} {a1 : Int} {r : Int} (H : lszLeakedKey a0 a1 = some r) : Fn Try.prog 92 [.agg (eTLeakedKey a0), aI a1] [.c (.d (.i .i64 r))] := by
  refine fn_in Try.func92 rfl (by kernel_rfl) Try.ntmps92 rfl rfl rfl ?_
  refine wk ?_
  obtain ⟨r1, hr1, H⟩ := ob H
  refine awr_n rfl (ca rfl rfl rfl (lszKeyPath_c hr1) trivial rfl rfl rfl rfl) ?_
  refine wk ?_
  refine awc_cond rfl (fun h => ?_) (fun h => ?_)
  · have H := bt h H
    refine wk ?_
    cases H
    exact fin_ret (.cons (.tmp rfl) .nil) rfl rfl rfl
  · have H := bf h H
    refine wk ?_
    cases H
    exact fin_ret (.cons (.tmp rfl) .nil) rfl rfl rfl
def lszLeakedKeyS_L1 (a0 : List TLeakedKey) : (Int × Int) → Option (Step (Int × Int) (Int))
  | (v1, v2) => bif ltB v2 ((a0.length : Nat) : Int) then (Option.bind (ix a0 v2) fun x3 => Option.bind (lszLeakedKey x3 v1) fun r4 => bif ltB r4 0 then (dn (some (-1))) else (some (.next (r4, WR (v2 + 1))))) else (dn (some v1))
def lszLeakedKeyS (a0 : List TLeakedKey) (a1 : Int) : Option Int :=
  bif ltB (WR (a1 - ((a0.length : Nat) : Int))) 0 then (some (-1)) else (iter (lszLeakedKeyS_L1 a0) FU (WR (a1 - ((a0.length : Nat) : Int)), 0))
theorem lszLeakedKeyS_c {a0 : List TLeakedKey} {a1 : Int} {r : Int} (H : lszLeakedKeyS a0 a1 = some r) : Fn Try.prog 32 [aL (a0.map eTLeakedKey), aI a1] [.c (.d (.i .i64 r))] := by
  refine fn_in Try.func32 rfl (by kernel_rfl) Try.ntmps32 rfl rfl rfl ?_
  refine wk ?_
  refine awc_cond rfl (fun h => ?_) (fun h => ?_)
  · have H := bt h H
    refine wk ?_
    cases H
    exact fin_ret (.cons (.tmp rfl) .nil) rfl rfl rfl
  · have H := bf h H
    refine wk ?_
    refine awc_iter (fun (q : Int × Int) => ⟨[(0, .v (.c (.d false (.l (a0.map eTLeakedKey))))), (1, tI q.1), (5, tI q.2)], [], 0⟩) H (weak_of ⟨rfl, rfl, rfl, rfl, rfl, rfl, trivial⟩ trivial) ?_
    rintro ⟨v1, v2⟩ o H
    try dsimp only
    refine wk ?_
    refine awc_cond rfl (fun h => ?_) (fun h => ?_)
    · have H := bt h H
      refine wk ?_
      obtain ⟨x3, hx3, H⟩ := ob H
      refine awr_n rfl (xdT (enc := eTLeakedKey) hx3 (fun _ => rfl) rfl rfl rfl) ?_
      refine wk ?_
      obtain ⟨r4, hr4, H⟩ := ob H
      refine awr_n rfl (ca rfl rfl rfl (lszLeakedKey_c hr4) trivial rfl rfl rfl rfl) ?_
      refine wk ?_
      refine awc_cond rfl (fun h => ?_) (fun h => ?_)
      · have H := bt h H
        refine wk ?_
        obtain ⟨r0, Hd, rfl⟩ := dnE H
        refine iq_r (fun hq => ?_)
        have H := Hd.trans (congrArg some hq)
        refine wk ?_
        cases H
        exact fin_ret (.cons (.tmp rfl) .nil) rfl rfl rfl
      · have H := bf h H
        refine wk ?_
        cases H
        refine iq_n ?_
        exact weak_of ⟨rfl, rfl, rfl, rfl, rfl, rfl, trivial⟩ trivial
    · have H := bf h H
      refine wk ?_
      obtain ⟨r0, Hd, rfl⟩ := dnE H
      refine iq_e (fun hq => ?_)
      have H := Hd.trans (congrArg some hq)
      refine wk ?_
      cases H
      exact fin_ret (.cons (.tmp rfl) .nil) rfl rfl rfl
def ltoIntS_L1 (a0 : List Int) : (Int × List Int) → Option (Step (Int × List Int) (List Int))
  | (v1, v2) => bif ltB v1 ((a0.length : Nat) : Int) then (Option.bind (ix a0 v1) fun x6 => Option.bind (ix v2 v1) fun x7 => some (.next (WR (v1 + 1), (v2.set (v1).toNat x6)))) else (some (.done v2))
def ltoIntS (a0 : List Int) : Option (List Int) :=
  bif mkOk 8 ((a0.length : Nat) : Int) ((a0.length : Nat) : Int) then (Option.bind (iter (ltoIntS_L1 a0) FU (0, (List.replicate (((a0.length : Nat) : Int)).toNat 0))) fun (v5 : List Int) => some v5) else none
theorem ltoIntS_c {a0 : List Int} {r : List Int} (H : ltoIntS a0 = some r) : Fn Try.prog 113 [aL (a0.map eI)] [.c (.own 3 1 (r.map eI) r.length)] := by
  refine fn_in Try.func113 rfl (by kernel_rfl) Try.ntmps113 rfl rfl rfl ?_
  refine wk ?_
  obtain ⟨h, H⟩ := rq H
  refine awr_n rfl (mkT (enc := eI) (za := 0) h (by rfl) rfl rfl rfl rfl) ?_
  refine wk ?_
  obtain ⟨v5, Hj, H⟩ := ob H
  refine awc_jblk ⟨[(3, .v (.c (.w 0 v5.length)))], [(0, .row 3 1 (v5.map eI) true true)], 1⟩ ?_ ?_
  · refine wk ?_
    refine awc_iter (fun (q : Int × List Int) => ⟨[(0, .v (.c (.d false (.l (a0.map eI))))), (3, .v (.c (.w 0 q.2.length))), (4, tI q.1)], [(0, .row 3 1 (q.2.map eI) true true)], 1⟩) Hj (weak_of ⟨rfl, rfl, wn rfl (by first | rfl | simp), rfl, rfl, rfl, trivial⟩ ⟨rfl, ⟨rfl, rfl⟩, trivial⟩) ?_
    rintro ⟨v1, v2⟩ o H
    try dsimp only
    refine wk ?_
    refine awc_cond rfl (fun h => ?_) (fun h => ?_)
    · have H := bt h H
      refine wk ?_
      obtain ⟨x6, hx6, H⟩ := ob H
      refine awr_n rfl (xdT (enc := eI) hx6 (fun _ => rfl) rfl rfl rfl) ?_
      refine wk ?_
      obtain ⟨x7, hx7, H⟩ := ob H
      refine awr_n rfl (xwT hx7 (by first | rfl | simp) rfl rfl rfl) ?_
      refine wk ?_
      refine awr_step rfl (soT (enc := eI) (a' := x6) hx7 rfl rfl rfl rfl rfl rfl rfl) ?_
      refine wk ?_
      cases H
      refine iq_n ?_
      exact weak_of ⟨rfl, rfl, wn rfl (by first | rfl | simp), rfl, rfl, rfl, trivial⟩ ⟨rfl, ⟨rfl, rfl⟩, trivial⟩
    · have H := bf h H
      refine wk ?_
      cases H
      refine iq_e (fun hq => ?_)
      cases hq
      refine wk ?_
      exact weak_of ⟨wn rfl (by first | rfl | simp), rfl, trivial⟩ ⟨rfl, ⟨rfl, rfl⟩, trivial⟩
  refine wk ?_
  cases H
  exact fin_ret (.cons (.tmp rfl) .nil) rfl rfl (by first | rfl | simp)
def ltoKeyPath (a0 : TKeyPath) : Option TKeyPath :=
  Option.bind (ltoIntS a0.Steps) fun r1 => some (⟨r1⟩ : TKeyPath)
theorem ltoKeyPath_c {a0 : TKeyPath} {r : TKeyPath} (H : ltoKeyPath a0 = some r) : Fn Try.prog 139 [.agg (eTKeyPath a0)] [.agg [.own 3 1 (r.Steps.map eI) r.Steps.length]] := by
  refine fn_in Try.func139 rfl (by kernel_rfl) Try.ntmps139 rfl rfl rfl ?_
  refine wk ?_
  obtain ⟨r1, hr1, H⟩ := ob H
  refine awr_n rfl (ca rfl rfl rfl (ltoIntS_c hr1) trivial rfl rfl rfl rfl) ?_
  refine wk ?_
  cases H
  exact fin_ret (.cons (.cell rfl rfl rfl) .nil) rfl rfl (by first | rfl | simp)
def ltoLeakedKey (a0 : TLeakedKey) : Option TLeakedKey :=
  Option.bind (ltoKeyPath a0.Path) fun r1 => some (⟨a0.Generation, r1⟩ : TLeakedKey)
theorem ltoLeakedKey_c {a0 : TLeakedKey} {r : TLeakedKey} (H : ltoLeakedKey a0 = some r) : Fn Try.prog 95 [.agg (eTLeakedKey a0)] [.agg [.d (.i .i64 r.Generation), .own 3 1 (r.Path.Steps.map eI) r.Path.Steps.length]] := by
  refine fn_in Try.func95 rfl (by kernel_rfl) Try.ntmps95 rfl rfl rfl ?_
  refine wk ?_
  obtain ⟨r1, hr1, H⟩ := ob H
  refine awr_n rfl (ca rfl rfl rfl (ltoKeyPath_c hr1) trivial rfl rfl rfl rfl) ?_
  refine wk ?_
  cases H
  exact fin_ret (.cons (.cell rfl rfl rfl) .nil) rfl rfl (by first | rfl | simp)
def ltoLeakedKeyS_L1 (a0 : List TLeakedKey) : (Int × List TLeakedKey) → Option (Step (Int × List TLeakedKey) (List TLeakedKey))
  | (v1, v2) => bif ltB v1 ((a0.length : Nat) : Int) then (Option.bind (ix a0 v1) fun x7 => Option.bind (ltoLeakedKey x7) fun r8 => Option.bind (ix v2 v1) fun x9 => some (.next (WR (v1 + 1), (v2.set (v1).toNat r8)))) else (some (.done v2))
def ltoLeakedKeyS (a0 : List TLeakedKey) : Option (List TLeakedKey) :=
  bif mkOk 32 ((a0.length : Nat) : Int) ((a0.length : Nat) : Int) then (Option.bind (iter (ltoLeakedKeyS_L1 a0) FU (0, (List.replicate (((a0.length : Nat) : Int)).toNat (⟨0, (⟨[]⟩ : TKeyPath)⟩ : TLeakedKey)))) fun (v6 : List TLeakedKey) => some v6) else none
theorem ltoLeakedKeyS_c {a0 : List TLeakedKey} {r : List TLeakedKey} (H : ltoLeakedKeyS a0 = some r) : Fn Try.prog 34 [aL (a0.map eTLeakedKey)] [.c (.own 143 2 (r.map eTLeakedKey) r.length)] := by
  refine fn_in Try.func34 rfl (by kernel_rfl) Try.ntmps34 rfl rfl rfl ?_
  refine wk ?_
  obtain ⟨h, H⟩ := rq H
  refine awr_n rfl (mkT (enc := eTLeakedKey) (za := (⟨0, (⟨[]⟩ : TKeyPath)⟩ : TLeakedKey)) h (by rfl) rfl rfl rfl rfl) ?_
  refine wk ?_
  obtain ⟨v6, Hj, H⟩ := ob H
  refine awc_jblk ⟨[(3, .v (.c (.w 0 v6.length)))], [(0, .row 143 2 (v6.map eTLeakedKey) true true)], 1⟩ ?_ ?_
  · refine wk ?_
    refine awc_iter (fun (q : Int × List TLeakedKey) => ⟨[(0, .v (.c (.d false (.l (a0.map eTLeakedKey))))), (3, .v (.c (.w 0 q.2.length))), (4, tI q.1)], [(0, .row 143 2 (q.2.map eTLeakedKey) true true)], 1⟩) Hj (weak_of ⟨rfl, rfl, wn rfl (by first | rfl | simp), rfl, rfl, rfl, trivial⟩ ⟨rfl, ⟨rfl, rfl⟩, trivial⟩) ?_
    rintro ⟨v1, v2⟩ o H
    try dsimp only
    refine wk ?_
    refine awc_cond rfl (fun h => ?_) (fun h => ?_)
    · have H := bt h H
      refine wk ?_
      obtain ⟨x7, hx7, H⟩ := ob H
      refine awr_n rfl (xdT (enc := eTLeakedKey) hx7 (fun _ => rfl) rfl rfl rfl) ?_
      refine wk ?_
      obtain ⟨r8, hr8, H⟩ := ob H
      refine awr_n rfl (ca rfl rfl rfl (ltoLeakedKey_c hr8) trivial rfl rfl rfl rfl) ?_
      refine wk ?_
      obtain ⟨x9, hx9, H⟩ := ob H
      refine awr_n rfl (xwT hx9 (by first | rfl | simp) rfl rfl rfl) ?_
      refine wk ?_
      refine awr_weak (weak_frz (o := 1) rfl rfl) ?_
      refine awr_weak (weak_cast (k := 20) rfl rfl ⟨by first | rfl | simp, trivial⟩) ?_
      refine awr_step rfl (soT (enc := eTLeakedKey) (a' := r8) hx9 rfl rfl rfl rfl rfl rfl rfl) ?_
      refine wk ?_
      cases H
      refine iq_n ?_
      exact weak_of ⟨rfl, rfl, wn rfl (by first | rfl | simp), rfl, rfl, rfl, trivial⟩ ⟨rfl, ⟨rfl, rfl⟩, trivial⟩
    · have H := bf h H
      refine wk ?_
      cases H
      refine iq_e (fun hq => ?_)
      cases hq
      refine wk ?_
      exact weak_of ⟨wn rfl (by first | rfl | simp), rfl, trivial⟩ ⟨rfl, ⟨rfl, rfl⟩, trivial⟩
  refine wk ?_
  cases H
  exact fin_ret (.cons (.tmp rfl) .nil) rfl rfl (by first | rfl | simp)
def leqIntS_L1 (a0 : List Int) (a1 : List Int) : Int → Option (Step (Int) (Bool))
  | v1 => bif ltB v1 ((a0.length : Nat) : Int) then (Option.bind (ix a0 v1) fun x2 => Option.bind (ix a1 v1) fun x3 => bif !eqB x2 x3 then (dn (some false)) else (some (.next (WR (v1 + 1))))) else (dn (some true))
def leqIntS (a0 : List Int) (a1 : List Int) : Option Bool :=
  bif !eqB ((a0.length : Nat) : Int) ((a1.length : Nat) : Int) then (some false) else (iter (leqIntS_L1 a0 a1) FU 0)
theorem leqIntS_c {a0 : List Int} {a1 : List Int} {r : Bool} (H : leqIntS a0 a1 = some r) : Fn Try.prog 52 [aL (a0.map eI), aL (a1.map eI)] [.c (.d (.b r))] := by
  refine fn_in Try.func52 rfl (by kernel_rfl) Try.ntmps52 rfl rfl rfl ?_
  refine wkd ?_
  refine awc_cond rfl (fun h => ?_) (fun h => ?_)
  · have H := bt h H
    refine wkd ?_
    cases H
    exact fin_ret (.cons (.tmp rfl) .nil) rfl rfl rfl
  · have H := bf h H
    refine wkd ?_
    refine awc_iter (fun (q : Int) => ⟨[(0, .v (.c (.d false (.l (a0.map eI))))), (1, .v (.c (.d false (.l (a1.map eI))))), (5, tI q)], [], 0⟩) H (weak_of ⟨rfl, rfl, rfl, rfl, rfl, rfl, trivial⟩ trivial) ?_
    rintro v1 o H
    try dsimp only
    refine wkd ?_
    refine awc_cond rfl (fun h => ?_) (fun h => ?_)
    · have H := bt h H
      refine wkd ?_
      obtain ⟨x2, hx2, H⟩ := ob H
      refine dr_n rfl (xdT (enc := eI) hx2 (fun _ => rfl) rfl rfl rfl) ?_
      refine wkd ?_
      obtain ⟨x3, hx3, H⟩ := ob H
      refine dr_n rfl (xdT (enc := eI) hx3 (fun _ => rfl) rfl rfl rfl) ?_
      refine wkd ?_
      refine awc_cond rfl (fun h => ?_) (fun h => ?_)
      · have H := bt h H
        refine wkd ?_
        obtain ⟨r0, Hd, rfl⟩ := dnE H
        refine iq_r (fun hq => ?_)
        have H := Hd.trans (congrArg some hq)
        refine wkd ?_
        cases H
        exact fin_ret (.cons (.tmp rfl) .nil) rfl rfl rfl
      · have H := bf h H
        refine wkd ?_
        cases H
        refine iq_n ?_
        exact weak_of ⟨rfl, rfl, rfl, rfl, rfl, rfl, trivial⟩ trivial
    · have H := bf h H
      refine wkd ?_
      obtain ⟨r0, Hd, rfl⟩ := dnE H
      refine iq_e (fun hq => ?_)
      have H := Hd.trans (congrArg some hq)
      refine wkd ?_
      cases H
      exact fin_ret (.cons (.tmp rfl) .nil) rfl rfl rfl
def leqKeyPath (a0 : TKeyPath) (a1 : TKeyPath) : Option Bool :=
  Option.bind (leqIntS a0.Steps a1.Steps) fun r1 => bif !r1 then (some false) else (some true)
theorem leqKeyPath_c {a0 : TKeyPath} {a1 : TKeyPath} {r : Bool} (H : leqKeyPath a0 a1 = some r) : Fn Try.prog 141 [.agg (eTKeyPath a0), .agg (eTKeyPath a1)] [.c (.d (.b r))] := by
  refine fn_in Try.func141 rfl (by kernel_rfl) Try.ntmps141 rfl rfl rfl ?_
  refine wk ?_
  obtain ⟨r1, hr1, H⟩ := ob H
  refine awr_n rfl (ca rfl rfl rfl (leqIntS_c hr1) trivial rfl rfl rfl rfl) ?_
  refine wk ?_
  refine awc_cond rfl (fun h => ?_) (fun h => ?_)
  · have H := bt h H
    refine wk ?_
    cases H
    exact fin_ret (.cons (.tmp rfl) .nil) rfl rfl rfl
  · have H := bf h H
    refine wk ?_
    cases H
    exact fin_ret (.cons (.tmp rfl) .nil) rfl rfl rfl
def leqLeakedKey (a0 : TLeakedKey) (a1 : TLeakedKey) : Option Bool :=
  bif !eqB a0.Generation a1.Generation then (some false) else (Option.bind (leqKeyPath a0.Path a1.Path) fun r1 => bif !r1 then (some false) else (some true))
theorem leqLeakedKey_c {a0 : TLeakedKey} {a1 : TLeakedKey} {r : Bool} (H : leqLeakedKey a0 a1 = some r) : Fn Try.prog 98 [.agg (eTLeakedKey a0), .agg (eTLeakedKey a1)] [.c (.d (.b r))] := by
  refine fn_in Try.func98 rfl (by kernel_rfl) Try.ntmps98 rfl rfl rfl ?_
  refine wk ?_
  refine awc_cond rfl (fun h => ?_) (fun h => ?_)
  · have H := bt h H
    refine wk ?_
    cases H
    exact fin_ret (.cons (.tmp rfl) .nil) rfl rfl rfl
  · have H := bf h H
    refine wk ?_
    obtain ⟨r1, hr1, H⟩ := ob H
    refine awr_n rfl (ca rfl rfl rfl (leqKeyPath_c hr1) trivial rfl rfl rfl rfl) ?_
    refine wk ?_
    refine awc_cond rfl (fun h => ?_) (fun h => ?_)
    · have H := bt h H
      refine wk ?_
      cases H
      exact fin_ret (.cons (.tmp rfl) .nil) rfl rfl rfl
    · have H := bf h H
      refine wk ?_
      cases H
      exact fin_ret (.cons (.tmp rfl) .nil) rfl rfl rfl
def leqLeakedKeyS_L1 (a0 : List TLeakedKey) (a1 : List TLeakedKey) : Int → Option (Step (Int) (Bool))
  | v1 => bif ltB v1 ((a0.length : Nat) : Int) then (Option.bind (ix a0 v1) fun x2 => Option.bind (ix a1 v1) fun x3 => Option.bind (leqLeakedKey x2 x3) fun r4 => bif !r4 then (dn (some false)) else (some (.next (WR (v1 + 1))))) else (dn (some true))
def leqLeakedKeyS (a0 : List TLeakedKey) (a1 : List TLeakedKey) : Option Bool :=
  bif !eqB ((a0.length : Nat) : Int) ((a1.length : Nat) : Int) then (some false) else (iter (leqLeakedKeyS_L1 a0 a1) FU 0)
theorem leqLeakedKeyS_c {a0 : List TLeakedKey} {a1 : List TLeakedKey} {r : Bool} (H : leqLeakedKeyS a0 a1 = some r) : Fn Try.prog 36 [aL (a0.map eTLeakedKey), aL (a1.map eTLeakedKey)] [.c (.d (.b r))] := by
  refine fn_in Try.func36 rfl (by kernel_rfl) Try.ntmps36 rfl rfl rfl ?_
  refine wkd ?_
  refine awc_cond rfl (fun h => ?_) (fun h => ?_)
  · have H := bt h H
    refine wkd ?_
    cases H
    exact fin_ret (.cons (.tmp rfl) .nil) rfl rfl rfl
  · have H := bf h H
    refine wkd ?_
    refine awc_iter (fun (q : Int) => ⟨[(0, .v (.c (.d false (.l (a0.map eTLeakedKey))))), (1, .v (.c (.d false (.l (a1.map eTLeakedKey))))), (5, tI q)], [], 0⟩) H (weak_of ⟨rfl, rfl, rfl, rfl, rfl, rfl, trivial⟩ trivial) ?_
    rintro v1 o H
    try dsimp only
    refine wkd ?_
    refine awc_cond rfl (fun h => ?_) (fun h => ?_)
    · have H := bt h H
      refine wkd ?_
      obtain ⟨x2, hx2, H⟩ := ob H
      refine dr_n rfl (xdT (enc := eTLeakedKey) hx2 (fun _ => rfl) rfl rfl rfl) ?_
      refine wkd ?_
      obtain ⟨x3, hx3, H⟩ := ob H
      refine dr_n rfl (xdT (enc := eTLeakedKey) hx3 (fun _ => rfl) rfl rfl rfl) ?_
      refine wkd ?_
      obtain ⟨r4, hr4, H⟩ := ob H
      refine dr_n rfl (ca rfl rfl rfl (leqLeakedKey_c hr4) trivial rfl rfl rfl rfl) ?_
      refine wkd ?_
      refine awc_cond rfl (fun h => ?_) (fun h => ?_)
      · have H := bt h H
        refine wkd ?_
        obtain ⟨r0, Hd, rfl⟩ := dnE H
        refine iq_r (fun hq => ?_)
        have H := Hd.trans (congrArg some hq)
        refine wkd ?_
        cases H
        exact fin_ret (.cons (.tmp rfl) .nil) rfl rfl rfl
      · have H := bf h H
        refine wkd ?_
        cases H
        refine iq_n ?_
        exact weak_of ⟨rfl, rfl, rfl, rfl, rfl, rfl, trivial⟩ trivial
    · have H := bf h H
      refine wkd ?_
      obtain ⟨r0, Hd, rfl⟩ := dnE H
      refine iq_e (fun hq => ?_)
      have H := Hd.trans (congrArg some hq)
      refine wkd ?_
      cases H
      exact fin_ret (.cons (.tmp rfl) .nil) rfl rfl rfl
def lszSubscription (a0 : TSubscription) (a1 : Int) : Option Int :=
  Option.bind (lszIntS a0.RoamingNetworks a1) fun r1 => bif ltB r1 0 then (some (-1)) else (some r1)
theorem lszSubscription_c {a0 : TSubscription} {a1 : Int} {r : Int} (H : lszSubscription a0 a1 = some r) : Fn Try.prog 56 [.agg (eTSubscription a0), aI a1] [.c (.d (.i .i64 r))] := by
  refine fn_in Try.func56 rfl (by kernel_rfl) Try.ntmps56 rfl rfl rfl ?_
  refine wk ?_
  obtain ⟨r1, hr1, H⟩ := ob H
  refine awr_n rfl (ca rfl rfl rfl (lszIntS_c hr1) trivial rfl rfl rfl rfl) ?_
  refine wk ?_
  refine awc_cond rfl (fun h => ?_) (fun h => ?_)
  · have H := bt h H
    refine wk ?_
    cases H
    exact fin_ret (.cons (.tmp rfl) .nil) rfl rfl rfl
  · have H := bf h H
    refine wk ?_
    cases H
    exact fin_ret (.cons (.tmp rfl) .nil) rfl rfl rfl
def lszRoamingAgreementS (a0 : List TRoamingAgreement) (a1 : Int) : Option Int :=
  bif ltB (WR (a1 - ((a0.length : Nat) : Int))) 0 then (some (-1)) else (some (WR (a1 - ((a0.length : Nat) : Int))))
theorem lszRoamingAgreementS_c {a0 : List TRoamingAgreement} {a1 : Int} {r : Int} (H : lszRoamingAgreementS a0 a1 = some r) : Fn Try.prog 57 [aL (a0.map eTRoamingAgreement), aI a1] [.c (.d (.i .i64 r))] := by
  refine fn_in Try.func57 rfl (by kernel_rfl) Try.ntmps57 rfl rfl rfl ?_
  refine wk ?_
  refine awc_cond rfl (fun h => ?_) (fun h => ?_)
  · have H := bt h H
    refine wk ?_
    cases H
    exact fin_ret (.cons (.tmp rfl) .nil) rfl rfl rfl
  · have H := bf h H
    refine wk ?_
    cases H
    exact fin_ret (.cons (.tmp rfl) .nil) rfl rfl rfl
def ltoSubscription (a0 : TSubscription) : Option TSubscription :=
  Option.bind (ltoIntS a0.RoamingNetworks) fun r1 => some (⟨a0.RateLimit, a0.BestClass, a0.GrantSize, r1⟩ : TSubscription)
theorem ltoSubscription_c {a0 : TSubscription} {r : TSubscription} (H : ltoSubscription a0 = some r) : Fn Try.prog 59 [.agg (eTSubscription a0)] [.agg [.d (.i .i64 r.RateLimit), .d (.i .i64 r.BestClass), .d (.i .i64 r.GrantSize), .own 3 1 (r.RoamingNetworks.map eI) r.RoamingNetworks.length]] := by
  refine fn_in Try.func59 rfl (by kernel_rfl) Try.ntmps59 rfl rfl rfl ?_
  refine wk ?_
  obtain ⟨r1, hr1, H⟩ := ob H
  refine awr_n rfl (ca rfl rfl rfl (ltoIntS_c hr1) trivial rfl rfl rfl rfl) ?_
  refine wk ?_
  cases H
  exact fin_ret (.cons (.cell rfl rfl rfl) .nil) rfl rfl (by first | rfl | simp)
def ltoRoamingAgreement (a0 : TRoamingAgreement) : Option TRoamingAgreement :=
  some a0
theorem ltoRoamingAgreement_c {a0 : TRoamingAgreement} {r : TRoamingAgreement} (H : ltoRoamingAgreement a0 = some r) : Fn Try.prog 114 [.agg (eTRoamingAgreement a0)] [.agg [.d (.i .i64 r.Home), .d (.i .i64 r.Visited), .d (.i .i64 r.Price), .d (.i .i64 r.Cap)]] := by
  refine fn_in Try.func114 rfl (by kernel_rfl) Try.ntmps114 rfl rfl rfl ?_
  refine wk ?_
  cases H
  exact fin_ret (.cons (.cell rfl rfl rfl) .nil) rfl rfl rfl
def ltoRoamingAgreementS_L1 (a0 : List TRoamingAgreement) : (Int × List TRoamingAgreement) → Option (Step (Int × List TRoamingAgreement) (List TRoamingAgreement))
  | (v1, v2) => bif ltB v1 ((a0.length : Nat) : Int) then (Option.bind (ix a0 v1) fun x7 => Option.bind (ltoRoamingAgreement x7) fun r8 => Option.bind (ix v2 v1) fun x9 => some (.next (WR (v1 + 1), (v2.set (v1).toNat r8)))) else (some (.done v2))
def ltoRoamingAgreementS (a0 : List TRoamingAgreement) : Option (List TRoamingAgreement) :=
  bif mkOk 32 ((a0.length : Nat) : Int) ((a0.length : Nat) : Int) then (Option.bind (iter (ltoRoamingAgreementS_L1 a0) FU (0, (List.replicate (((a0.length : Nat) : Int)).toNat (⟨0, 0, 0, 0⟩ : TRoamingAgreement)))) fun (v6 : List TRoamingAgreement) => some v6) else none
theorem ltoRoamingAgreementS_c {a0 : List TRoamingAgreement} {r : List TRoamingAgreement} (H : ltoRoamingAgreementS a0 = some r) : Fn Try.prog 60 [aL (a0.map eTRoamingAgreement)] [.c (.own 80 4 (r.map eTRoamingAgreement) r.length)] := by
  refine fn_in Try.func60 rfl (by kernel_rfl) Try.ntmps60 rfl rfl rfl ?_
  refine wk ?_
  obtain ⟨h, H⟩ := rq H
  refine awr_n rfl (mkT (enc := eTRoamingAgreement) (za := (⟨0, 0, 0, 0⟩ : TRoamingAgreement)) h (by rfl) rfl rfl rfl rfl) ?_
  refine wk ?_
  obtain ⟨v6, Hj, H⟩ := ob H
  refine awc_jblk ⟨[(3, .v (.c (.w 0 v6.length)))], [(0, .row 80 4 (v6.map eTRoamingAgreement) true true)], 1⟩ ?_ ?_
  · refine wk ?_
    refine awc_iter (fun (q : Int × List TRoamingAgreement) => ⟨[(0, .v (.c (.d false (.l (a0.map eTRoamingAgreement))))), (3, .v (.c (.w 0 q.2.length))), (4, tI q.1)], [(0, .row 80 4 (q.2.map eTRoamingAgreement) true true)], 1⟩) Hj (weak_of ⟨rfl, rfl, wn rfl (by first | rfl | simp), rfl, rfl, rfl, trivial⟩ ⟨rfl, ⟨rfl, rfl⟩, trivial⟩) ?_
    rintro ⟨v1, v2⟩ o H
    try dsimp only
    refine wk ?_
    refine awc_cond rfl (fun h => ?_) (fun h => ?_)
    · have H := bt h H
      refine wk ?_
      obtain ⟨x7, hx7, H⟩ := ob H
      refine awr_n rfl (xdT (enc := eTRoamingAgreement) hx7 (fun _ => rfl) rfl rfl rfl) ?_
      refine wk ?_
      obtain ⟨r8, hr8, H⟩ := ob H
      refine awr_n rfl (ca rfl rfl rfl (ltoRoamingAgreement_c hr8) trivial rfl rfl rfl rfl) ?_
      refine wk ?_
      obtain ⟨x9, hx9, H⟩ := ob H
      refine awr_n rfl (xwT hx9 (by first | rfl | simp) rfl rfl rfl) ?_
      refine wk ?_
      refine awr_step rfl (soT (enc := eTRoamingAgreement) (a' := r8) hx9 rfl rfl rfl rfl rfl rfl rfl) ?_
      refine wk ?_
      cases H
      refine iq_n ?_
      exact weak_of ⟨rfl, rfl, wn rfl (by first | rfl | simp), rfl, rfl, rfl, trivial⟩ ⟨rfl, ⟨rfl, rfl⟩, trivial⟩
    · have H := bf h H
      refine wk ?_
      cases H
      refine iq_e (fun hq => ?_)
      cases hq
      refine wk ?_
      exact weak_of ⟨wn rfl (by first | rfl | simp), rfl, trivial⟩ ⟨rfl, ⟨rfl, rfl⟩, trivial⟩
  refine wk ?_
  cases H
  exact fin_ret (.cons (.tmp rfl) .nil) rfl rfl (by first | rfl | simp)
def ltoSubscriberID (a0 : TSubscriberID) : Option TSubscriberID :=
  some a0
theorem ltoSubscriberID_c {a0 : TSubscriberID} {r : TSubscriberID} (H : ltoSubscriberID a0 = some r) : Fn Try.prog 61 [.agg (eTSubscriberID a0)] [.agg [.d (.i .i64 r.Network), .d (.i .i64 r.Number)]] := by
  refine fn_in Try.func61 rfl (by kernel_rfl) Try.ntmps61 rfl rfl rfl ?_
  refine wk ?_
  cases H
  exact fin_ret (.cons (.cell rfl rfl rfl) .nil) rfl rfl rfl
def leqSubscription (a0 : TSubscription) (a1 : TSubscription) : Option Bool :=
  bif !eqB a0.RateLimit a1.RateLimit then (some false) else (bif !eqB a0.BestClass a1.BestClass then (some false) else (bif !eqB a0.GrantSize a1.GrantSize then (some false) else (Option.bind (leqIntS a0.RoamingNetworks a1.RoamingNetworks) fun r1 => bif !r1 then (some false) else (some true))))
theorem leqSubscription_c {a0 : TSubscription} {a1 : TSubscription} {r : Bool} (H : leqSubscription a0 a1 = some r) : Fn Try.prog 62 [.agg (eTSubscription a0), .agg (eTSubscription a1)] [.c (.d (.b r))] := by
  refine fn_in Try.func62 rfl (by kernel_rfl) Try.ntmps62 rfl rfl rfl ?_
  refine wk ?_
  refine awc_cond rfl (fun h => ?_) (fun h => ?_)
  · have H := bt h H
    refine wk ?_
    cases H
    exact fin_ret (.cons (.tmp rfl) .nil) rfl rfl rfl
  · have H := bf h H
    refine wk ?_
    refine awc_cond rfl (fun h => ?_) (fun h => ?_)
    · have H := bt h H
      refine wk ?_
      cases H
      exact fin_ret (.cons (.tmp rfl) .nil) rfl rfl rfl
    · have H := bf h H
      refine wk ?_
      refine awc_cond rfl (fun h => ?_) (fun h => ?_)
      · have H := bt h H
        refine wk ?_
        cases H
        exact fin_ret (.cons (.tmp rfl) .nil) rfl rfl rfl
      · have H := bf h H
        refine wk ?_
        obtain ⟨r1, hr1, H⟩ := ob H
        refine awr_n rfl (ca rfl rfl rfl (leqIntS_c hr1) trivial rfl rfl rfl rfl) ?_
        refine wk ?_
        refine awc_cond rfl (fun h => ?_) (fun h => ?_)
        · have H := bt h H
          refine wk ?_
          cases H
          exact fin_ret (.cons (.tmp rfl) .nil) rfl rfl rfl
        · have H := bf h H
          refine wk ?_
          cases H
          exact fin_ret (.cons (.tmp rfl) .nil) rfl rfl rfl
def leqRoamingAgreement (a0 : TRoamingAgreement) (a1 : TRoamingAgreement) : Option Bool :=
  bif !eqB a0.Home a1.Home then (some false) else (bif !eqB a0.Visited a1.Visited then (some false) else (bif !eqB a0.Price a1.Price then (some false) else (bif !eqB a0.Cap a1.Cap then (some false) else (some true))))
theorem leqRoamingAgreement_c {a0 : TRoamingAgreement} {a1 : TRoamingAgreement} {r : Bool} (H : leqRoamingAgreement a0 a1 = some r) : Fn Try.prog 115 [.agg (eTRoamingAgreement a0), .agg (eTRoamingAgreement a1)] [.c (.d (.b r))] := by
  refine fn_in Try.func115 rfl (by kernel_rfl) Try.ntmps115 rfl rfl rfl ?_
  refine wk ?_
  refine awc_cond rfl (fun h => ?_) (fun h => ?_)
  · have H := bt h H
    refine wk ?_
    cases H
    exact fin_ret (.cons (.tmp rfl) .nil) rfl rfl rfl
  · have H := bf h H
    refine wk ?_
    refine awc_cond rfl (fun h => ?_) (fun h => ?_)
    · have H := bt h H
      refine wk ?_
      cases H
      exact fin_ret (.cons (.tmp rfl) .nil) rfl rfl rfl
    · have H := bf h H
      refine wk ?_
      refine awc_cond rfl (fun h => ?_) (fun h => ?_)
      · have H := bt h H
        refine wk ?_
        cases H
        exact fin_ret (.cons (.tmp rfl) .nil) rfl rfl rfl
      · have H := bf h H
        refine wk ?_
        refine awc_cond rfl (fun h => ?_) (fun h => ?_)
        · have H := bt h H
          refine wk ?_
          cases H
          exact fin_ret (.cons (.tmp rfl) .nil) rfl rfl rfl
        · have H := bf h H
          refine wk ?_
          cases H
          exact fin_ret (.cons (.tmp rfl) .nil) rfl rfl rfl
def leqRoamingAgreementS_L1 (a0 : List TRoamingAgreement) (a1 : List TRoamingAgreement) : Int → Option (Step (Int) (Bool))
  | v1 => bif ltB v1 ((a0.length : Nat) : Int) then (Option.bind (ix a0 v1) fun x2 => Option.bind (ix a1 v1) fun x3 => Option.bind (leqRoamingAgreement x2 x3) fun r4 => bif !r4 then (dn (some false)) else (some (.next (WR (v1 + 1))))) else (dn (some true))
def leqRoamingAgreementS (a0 : List TRoamingAgreement) (a1 : List TRoamingAgreement) : Option Bool :=
  bif !eqB ((a0.length : Nat) : Int) ((a1.length : Nat) : Int) then (some false) else (iter (leqRoamingAgreementS_L1 a0 a1) FU 0)
theorem leqRoamingAgreementS_c {a0 : List TRoamingAgreement} {a1 : List TRoamingAgreement} {r : Bool} (H : leqRoamingAgreementS a0 a1 = some r) : Fn Try.prog 63 [aL (a0.map eTRoamingAgreement), aL (a1.map eTRoamingAgreement)] [.c (.d (.b r))] := by
  refine fn_in Try.func63 rfl (by kernel_rfl) Try.ntmps63 rfl rfl rfl ?_
  refine wkd ?_
  refine awc_cond rfl (fun h => ?_) (fun h => ?_)
  · have H := bt h H
    refine wkd ?_
    cases H
    exact fin_ret (.cons (.tmp rfl) .nil) rfl rfl rfl
  · have H := bf h H
    refine wkd ?_
    refine awc_iter (fun (q : Int) => ⟨[(0, .v (.c (.d false (.l (a0.map eTRoamingAgreement))))), (1, .v (.c (.d false (.l (a1.map eTRoamingAgreement))))), (5, tI q)], [], 0⟩) H (weak_of ⟨rfl, rfl, rfl, rfl, rfl, rfl, trivial⟩ trivial) ?_
    rintro v1 o H
    try dsimp only
    refine wkd ?_
    refine awc_cond rfl (fun h => ?_) (fun h => ?_)
    · have H := bt h H
      refine wkd ?_
      obtain ⟨x2, hx2, H⟩ := ob H
      refine dr_n rfl (xdT (enc := eTRoamingAgreement) hx2 (fun _ => rfl) rfl rfl rfl) ?_
      refine wkd ?_
      obtain ⟨x3, hx3, H⟩ := ob H
      refine dr_n rfl (xdT (enc := eTRoamingAgreement) hx3 (fun _ => rfl) rfl rfl rfl) ?_
      refine wkd ?_
      obtain ⟨r4, hr4, H⟩ := ob H
      refine dr_n rfl (ca rfl rfl rfl (leqRoamingAgreement_c hr4) trivial rfl rfl rfl rfl) ?_
      refine wkd ?_
      refine awc_cond rfl (fun h => ?_) (fun h => ?_)
      · have H := bt h H
        refine wkd ?_
        obtain ⟨r0, Hd, rfl⟩ := dnE H
        refine iq_r (fun hq => ?_)
        have H := Hd.trans (congrArg some hq)
        refine wkd ?_
        cases H
        exact fin_ret (.cons (.tmp rfl) .nil) rfl rfl rfl
      · have H := bf h H
        refine wkd ?_
        cases H
        refine iq_n ?_
        exact weak_of ⟨rfl, rfl, rfl, rfl, rfl, rfl, trivial⟩ trivial
    · have H := bf h H
      refine wkd ?_
      obtain ⟨r0, Hd, rfl⟩ := dnE H
      refine iq_e (fun hq => ?_)
      have H := Hd.trans (congrArg some hq)
      refine wkd ?_
      cases H
      exact fin_ret (.cons (.tmp rfl) .nil) rfl rfl rfl
def lszUsageRecordS (a0 : List TUsageRecord) (a1 : Int) : Option Int :=
  bif ltB (WR (a1 - ((a0.length : Nat) : Int))) 0 then (some (-1)) else (some (WR (a1 - ((a0.length : Nat) : Int))))
theorem lszUsageRecordS_c {a0 : List TUsageRecord} {a1 : Int} {r : Int} (H : lszUsageRecordS a0 a1 = some r) : Fn Try.prog 85 [aL (a0.map eTUsageRecord), aI a1] [.c (.d (.i .i64 r))] := by
  refine fn_in Try.func85 rfl (by kernel_rfl) Try.ntmps85 rfl rfl rfl ?_
  refine wk ?_
  refine awc_cond rfl (fun h => ?_) (fun h => ?_)
  · have H := bt h H
    refine wk ?_
    cases H
    exact fin_ret (.cons (.tmp rfl) .nil) rfl rfl rfl
  · have H := bf h H
    refine wk ?_
    cases H
    exact fin_ret (.cons (.tmp rfl) .nil) rfl rfl rfl
def lszOperatorBook (a0 : TOperatorBook) (a1 : Int) : Option Int :=
  Option.bind (lszUsageRecordS a0.Own a1) fun r1 => bif ltB r1 0 then (some (-1)) else (Option.bind (lszUsageRecordS a0.Claims r1) fun r2 => bif ltB r2 0 then (some (-1)) else (some r2))
theorem lszOperatorBook_c {a0 : TOperatorBook} {a1 : Int} {r : Int} (H : lszOperatorBook a0 a1 = some r) : Fn Try.prog 27 [.agg (eTOperatorBook a0), aI a1] [.c (.d (.i .i64 r))] := by
  refine fn_in Try.func27 rfl (by kernel_rfl) Try.ntmps27 rfl rfl rfl ?_
  refine wk ?_
  obtain ⟨r1, hr1, H⟩ := ob H
  refine awr_n rfl (ca rfl rfl rfl (lszUsageRecordS_c hr1) trivial rfl rfl rfl rfl) ?_
  refine wk ?_
  refine awc_cond rfl (fun h => ?_) (fun h => ?_)
  · have H := bt h H
    refine wk ?_
    cases H
    exact fin_ret (.cons (.tmp rfl) .nil) rfl rfl rfl
  · have H := bf h H
    refine wk ?_
    obtain ⟨r2, hr2, H⟩ := ob H
    refine awr_n rfl (ca rfl rfl rfl (lszUsageRecordS_c hr2) trivial rfl rfl rfl rfl) ?_
    refine wk ?_
    refine awc_cond rfl (fun h => ?_) (fun h => ?_)
    · have H := bt h H
      refine wk ?_
      cases H
      exact fin_ret (.cons (.tmp rfl) .nil) rfl rfl rfl
    · have H := bf h H
      refine wk ?_
      cases H
      exact fin_ret (.cons (.tmp rfl) .nil) rfl rfl rfl
def ltoUsageRecord (a0 : TUsageRecord) : Option TUsageRecord :=
  some a0
theorem ltoUsageRecord_c {a0 : TUsageRecord} {r : TUsageRecord} (H : ltoUsageRecord a0 = some r) : Fn Try.prog 133 [.agg (eTUsageRecord a0)] [.agg [.d (.i .i64 r.Network), .d (.i .i64 r.SessionID), .d (.i .i64 r.Seq), .d (.i .i64 r.Bytes)]] := by
  refine fn_in Try.func133 rfl (by kernel_rfl) Try.ntmps133 rfl rfl rfl ?_
  refine wk ?_
  cases H
  exact fin_ret (.cons (.cell rfl rfl rfl) .nil) rfl rfl rfl
def ltoUsageRecordS_L1 (a0 : List TUsageRecord) : (Int × List TUsageRecord) → Option (Step (Int × List TUsageRecord) (List TUsageRecord))
  | (v1, v2) => bif ltB v1 ((a0.length : Nat) : Int) then (Option.bind (ix a0 v1) fun x7 => Option.bind (ltoUsageRecord x7) fun r8 => Option.bind (ix v2 v1) fun x9 => some (.next (WR (v1 + 1), (v2.set (v1).toNat r8)))) else (some (.done v2))
def ltoUsageRecordS (a0 : List TUsageRecord) : Option (List TUsageRecord) :=
  bif mkOk 32 ((a0.length : Nat) : Int) ((a0.length : Nat) : Int) then (Option.bind (iter (ltoUsageRecordS_L1 a0) FU (0, (List.replicate (((a0.length : Nat) : Int)).toNat (⟨0, 0, 0, 0⟩ : TUsageRecord)))) fun (v6 : List TUsageRecord) => some v6) else none
theorem ltoUsageRecordS_c {a0 : List TUsageRecord} {r : List TUsageRecord} (H : ltoUsageRecordS a0 = some r) : Fn Try.prog 88 [aL (a0.map eTUsageRecord)] [.c (.own 129 4 (r.map eTUsageRecord) r.length)] := by
  refine fn_in Try.func88 rfl (by kernel_rfl) Try.ntmps88 rfl rfl rfl ?_
  refine wk ?_
  obtain ⟨h, H⟩ := rq H
  refine awr_n rfl (mkT (enc := eTUsageRecord) (za := (⟨0, 0, 0, 0⟩ : TUsageRecord)) h (by rfl) rfl rfl rfl rfl) ?_
  refine wk ?_
  obtain ⟨v6, Hj, H⟩ := ob H
  refine awc_jblk ⟨[(3, .v (.c (.w 0 v6.length)))], [(0, .row 129 4 (v6.map eTUsageRecord) true true)], 1⟩ ?_ ?_
  · refine wk ?_
    refine awc_iter (fun (q : Int × List TUsageRecord) => ⟨[(0, .v (.c (.d false (.l (a0.map eTUsageRecord))))), (3, .v (.c (.w 0 q.2.length))), (4, tI q.1)], [(0, .row 129 4 (q.2.map eTUsageRecord) true true)], 1⟩) Hj (weak_of ⟨rfl, rfl, wn rfl (by first | rfl | simp), rfl, rfl, rfl, trivial⟩ ⟨rfl, ⟨rfl, rfl⟩, trivial⟩) ?_
    rintro ⟨v1, v2⟩ o H
    try dsimp only
    refine wk ?_
    refine awc_cond rfl (fun h => ?_) (fun h => ?_)
    · have H := bt h H
      refine wk ?_
      obtain ⟨x7, hx7, H⟩ := ob H
      refine awr_n rfl (xdT (enc := eTUsageRecord) hx7 (fun _ => rfl) rfl rfl rfl) ?_
      refine wk ?_
      obtain ⟨r8, hr8, H⟩ := ob H
      refine awr_n rfl (ca rfl rfl rfl (ltoUsageRecord_c hr8) trivial rfl rfl rfl rfl) ?_
      refine wk ?_
      obtain ⟨x9, hx9, H⟩ := ob H
      refine awr_n rfl (xwT hx9 (by first | rfl | simp) rfl rfl rfl) ?_
      refine wk ?_
      refine awr_step rfl (soT (enc := eTUsageRecord) (a' := r8) hx9 rfl rfl rfl rfl rfl rfl rfl) ?_
      refine wk ?_
      cases H
      refine iq_n ?_
      exact weak_of ⟨rfl, rfl, wn rfl (by first | rfl | simp), rfl, rfl, rfl, trivial⟩ ⟨rfl, ⟨rfl, rfl⟩, trivial⟩
    · have H := bf h H
      refine wk ?_
      cases H
      refine iq_e (fun hq => ?_)
      cases hq
      refine wk ?_
      exact weak_of ⟨wn rfl (by first | rfl | simp), rfl, trivial⟩ ⟨rfl, ⟨rfl, rfl⟩, trivial⟩
  refine wk ?_
  cases H
  exact fin_ret (.cons (.tmp rfl) .nil) rfl rfl (by first | rfl | simp)
def ltoOperatorBook (a0 : TOperatorBook) : Option TOperatorBook :=
  Option.bind (ltoUsageRecordS a0.Own) fun r1 => Option.bind (ltoUsageRecordS a0.Claims) fun r2 => some (⟨a0.Network, r1, r2⟩ : TOperatorBook)
theorem ltoOperatorBook_c {a0 : TOperatorBook} {r : TOperatorBook} (H : ltoOperatorBook a0 = some r) : Fn Try.prog 29 [.agg (eTOperatorBook a0)] [.agg [.d (.i .i64 r.Network), .own 129 4 (r.Own.map eTUsageRecord) r.Own.length, .own 129 4 (r.Claims.map eTUsageRecord) r.Claims.length]] := by
  refine fn_in Try.func29 rfl (by kernel_rfl) Try.ntmps29 rfl rfl rfl ?_
  refine wk ?_
  obtain ⟨r1, hr1, H⟩ := ob H
  refine awr_n rfl (ca rfl rfl rfl (ltoUsageRecordS_c hr1) trivial rfl rfl rfl rfl) ?_
  refine wk ?_
  obtain ⟨r2, hr2, H⟩ := ob H
  refine awr_n rfl (ca rfl rfl rfl (ltoUsageRecordS_c hr2) trivial rfl rfl rfl rfl) ?_
  refine wk ?_
  cases H
  exact fin_ret (.cons (.cell rfl rfl rfl) .nil) rfl rfl (by first | rfl | simp)
def leqUsageRecord (a0 : TUsageRecord) (a1 : TUsageRecord) : Option Bool :=
  bif !eqB a0.Network a1.Network then (some false) else (bif !eqB a0.SessionID a1.SessionID then (some false) else (bif !eqB a0.Seq a1.Seq then (some false) else (bif !eqB a0.Bytes a1.Bytes then (some false) else (some true))))
theorem leqUsageRecord_c {a0 : TUsageRecord} {a1 : TUsageRecord} {r : Bool} (H : leqUsageRecord a0 a1 = some r) : Fn Try.prog 136 [.agg (eTUsageRecord a0), .agg (eTUsageRecord a1)] [.c (.d (.b r))] := by
  refine fn_in Try.func136 rfl (by kernel_rfl) Try.ntmps136 rfl rfl rfl ?_
  refine wk ?_
  refine awc_cond rfl (fun h => ?_) (fun h => ?_)
  · have H := bt h H
    refine wk ?_
    cases H
    exact fin_ret (.cons (.tmp rfl) .nil) rfl rfl rfl
  · have H := bf h H
    refine wk ?_
    refine awc_cond rfl (fun h => ?_) (fun h => ?_)
    · have H := bt h H
      refine wk ?_
      cases H
      exact fin_ret (.cons (.tmp rfl) .nil) rfl rfl rfl
    · have H := bf h H
      refine wk ?_
      refine awc_cond rfl (fun h => ?_) (fun h => ?_)
      · have H := bt h H
        refine wk ?_
        cases H
        exact fin_ret (.cons (.tmp rfl) .nil) rfl rfl rfl
      · have H := bf h H
        refine wk ?_
        refine awc_cond rfl (fun h => ?_) (fun h => ?_)
        · have H := bt h H
          refine wk ?_
          cases H
          exact fin_ret (.cons (.tmp rfl) .nil) rfl rfl rfl
        · have H := bf h H
          refine wk ?_
          cases H
          exact fin_ret (.cons (.tmp rfl) .nil) rfl rfl rfl
def leqUsageRecordS_L1 (a0 : List TUsageRecord) (a1 : List TUsageRecord) : Int → Option (Step (Int) (Bool))
  | v1 => bif ltB v1 ((a0.length : Nat) : Int) then (Option.bind (ix a0 v1) fun x2 => Option.bind (ix a1 v1) fun x3 => Option.bind (leqUsageRecord x2 x3) fun r4 => bif !r4 then (dn (some false)) else (some (.next (WR (v1 + 1))))) else (dn (some true))
def leqUsageRecordS (a0 : List TUsageRecord) (a1 : List TUsageRecord) : Option Bool :=
  bif !eqB ((a0.length : Nat) : Int) ((a1.length : Nat) : Int) then (some false) else (iter (leqUsageRecordS_L1 a0 a1) FU 0)
theorem leqUsageRecordS_c {a0 : List TUsageRecord} {a1 : List TUsageRecord} {r : Bool} (H : leqUsageRecordS a0 a1 = some r) : Fn Try.prog 91 [aL (a0.map eTUsageRecord), aL (a1.map eTUsageRecord)] [.c (.d (.b r))] := by
  refine fn_in Try.func91 rfl (by kernel_rfl) Try.ntmps91 rfl rfl rfl ?_
  refine wkd ?_
  refine awc_cond rfl (fun h => ?_) (fun h => ?_)
  · have H := bt h H
    refine wkd ?_
    cases H
    exact fin_ret (.cons (.tmp rfl) .nil) rfl rfl rfl
  · have H := bf h H
    refine wkd ?_
    refine awc_iter (fun (q : Int) => ⟨[(0, .v (.c (.d false (.l (a0.map eTUsageRecord))))), (1, .v (.c (.d false (.l (a1.map eTUsageRecord))))), (5, tI q)], [], 0⟩) H (weak_of ⟨rfl, rfl, rfl, rfl, rfl, rfl, trivial⟩ trivial) ?_
    rintro v1 o H
    try dsimp only
    refine wkd ?_
    refine awc_cond rfl (fun h => ?_) (fun h => ?_)
    · have H := bt h H
      refine wkd ?_
      obtain ⟨x2, hx2, H⟩ := ob H
      refine dr_n rfl (xdT (enc := eTUsageRecord) hx2 (fun _ => rfl) rfl rfl rfl) ?_
      refine wkd ?_
      obtain ⟨x3, hx3, H⟩ := ob H
      refine dr_n rfl (xdT (enc := eTUsageRecord) hx3 (fun _ => rfl) rfl rfl rfl) ?_
      refine wkd ?_
      obtain ⟨r4, hr4, H⟩ := ob H
      refine dr_n rfl (ca rfl rfl rfl (leqUsageRecord_c hr4) trivial rfl rfl rfl rfl) ?_
      refine wkd ?_
      refine awc_cond rfl (fun h => ?_) (fun h => ?_)
      · have H := bt h H
        refine wkd ?_
        obtain ⟨r0, Hd, rfl⟩ := dnE H
        refine iq_r (fun hq => ?_)
        have H := Hd.trans (congrArg some hq)
        refine wkd ?_
        cases H
        exact fin_ret (.cons (.tmp rfl) .nil) rfl rfl rfl
      · have H := bf h H
        refine wkd ?_
        cases H
        refine iq_n ?_
        exact weak_of ⟨rfl, rfl, rfl, rfl, rfl, rfl, trivial⟩ trivial
    · have H := bf h H
      refine wkd ?_
      obtain ⟨r0, Hd, rfl⟩ := dnE H
      refine iq_e (fun hq => ?_)
      have H := Hd.trans (congrArg some hq)
      refine wkd ?_
      cases H
      exact fin_ret (.cons (.tmp rfl) .nil) rfl rfl rfl
def leqOperatorBook (a0 : TOperatorBook) (a1 : TOperatorBook) : Option Bool :=
  bif !eqB a0.Network a1.Network then (some false) else (Option.bind (leqUsageRecordS a0.Own a1.Own) fun r1 => bif !r1 then (some false) else (Option.bind (leqUsageRecordS a0.Claims a1.Claims) fun r2 => bif !r2 then (some false) else (some true)))
theorem leqOperatorBook_c {a0 : TOperatorBook} {a1 : TOperatorBook} {r : Bool} (H : leqOperatorBook a0 a1 = some r) : Fn Try.prog 31 [.agg (eTOperatorBook a0), .agg (eTOperatorBook a1)] [.c (.d (.b r))] := by
  refine fn_in Try.func31 rfl (by kernel_rfl) Try.ntmps31 rfl rfl rfl ?_
  refine wk ?_
  refine awc_cond rfl (fun h => ?_) (fun h => ?_)
  · have H := bt h H
    refine wk ?_
    cases H
    exact fin_ret (.cons (.tmp rfl) .nil) rfl rfl rfl
  · have H := bf h H
    refine wk ?_
    obtain ⟨r1, hr1, H⟩ := ob H
    refine awr_n rfl (ca rfl rfl rfl (leqUsageRecordS_c hr1) trivial rfl rfl rfl rfl) ?_
    refine wk ?_
    refine awc_cond rfl (fun h => ?_) (fun h => ?_)
    · have H := bt h H
      refine wk ?_
      cases H
      exact fin_ret (.cons (.tmp rfl) .nil) rfl rfl rfl
    · have H := bf h H
      refine wk ?_
      obtain ⟨r2, hr2, H⟩ := ob H
      refine awr_n rfl (ca rfl rfl rfl (leqUsageRecordS_c hr2) trivial rfl rfl rfl rfl) ?_
      refine wk ?_
      refine awc_cond rfl (fun h => ?_) (fun h => ?_)
      · have H := bt h H
        refine wk ?_
        cases H
        exact fin_ret (.cons (.tmp rfl) .nil) rfl rfl rfl
      · have H := bf h H
        refine wk ?_
        cases H
        exact fin_ret (.cons (.tmp rfl) .nil) rfl rfl rfl
end Go.AM
