/-
  Own text: a part of the abstract machine for this seat (Nbs). No statement is proved here.
-/
import Derived.Test.YtlpclccdbmoemaaGreatNbi
set_option linter.unusedVariables false
namespace Go.AM
open Go.Proofs
attribute [local irreducible] AWN NS AWO AWR AWC DR Weak iterQ
set_option maxRecDepth 100000
set_option maxHeartbeats 4000000
def sl1New_L1 (a0 : List Int) : (Int × Int) → Option (Step (Int × Int) (Int))
  | (v1, v2) => Option.bind (bif ltB v2 ((a0.length : Nat) : Int) then (some (ltB v2 4000)) else (some false)) fun (v6 : Bool) => bif v6 then (Option.bind (ix a0 v2) fun x7 => some (.next (bAnd .i64 (WR ((WR ((WR (v1 * 137)) + (WR (x7)))) + 11)) 1073741823, WR (v2 + 1)))) else (some (.done v1))
def sl1New (a0 : List Int) : Option Tl1Cur :=
  Option.bind (iter (sl1New_L1 a0) FU (WR (193017 + ((a0.length : Nat) : Int)), 0)) fun (v5 : Int) => some (⟨a0, 0, v5⟩ : Tl1Cur)
theorem sl1New_c {a0 : List Int} {r : Tl1Cur} (H : sl1New a0 = some r) : FnN Tryz.prog 12 [aL (a0.map eU8)] 100 (eTl1Cur r) := by
  refine fn_inN Tryz.func12 rfl (by kernel_rfl) Tryz.ntmps12 rfl rfl rfl ?_
  refine wk ?_
  obtain ⟨v5, Hj, H⟩ := ob H
  refine awc_jblk ⟨[(0, .v (.c (.d false (.l (a0.map eU8))))), (3, tI v5)], [], 0⟩ ?_ ?_
  · refine wk ?_
    refine awc_iter (fun (q : Int × Int) => ⟨[(0, .v (.c (.d false (.l (a0.map eU8))))), (3, tI q.1), (4, tI q.2)], [], 0⟩) Hj (weak_of ⟨rfl, rfl, rfl, rfl, rfl, rfl, trivial⟩ trivial) ?_
    rintro ⟨v1, v2⟩ o H
    try dsimp only
    refine wk ?_
    obtain ⟨v6, Hj, H⟩ := ob H
    refine awr_join ⟨[(0, .v (.c (.d false (.l (a0.map eU8))))), (3, tI v1), (4, tI v2), (15, tB v6)], [], 0⟩ ?_ ?_
    · have H := Hj
      refine wk ?_
      refine g2 rfl rfl rfl (fun h => ?_) (fun h => ?_)
      · have H := bt h H
        refine wk ?_
        cases H
        exact weak_of ⟨rfl, rfl, rfl, rfl, rfl, rfl, rfl, rfl, trivial⟩ trivial
      · have H := bf h H
        refine wk ?_
        cases H
        exact weak_of ⟨rfl, rfl, rfl, rfl, rfl, rfl, rfl, rfl, trivial⟩ trivial
    refine wk ?_
    refine awc_cond rfl (fun h => ?_) (fun h => ?_)
    · have H := bt h H
      refine wk ?_
      obtain ⟨x7, hx7, H⟩ := ob H
      refine awr_n rfl (xdT (enc := eU8) hx7 (fun _ => rfl) rfl rfl rfl) ?_
      refine wk ?_
      cases H
      refine iq_n ?_
      exact weak_of ⟨rfl, rfl, rfl, rfl, rfl, rfl, trivial⟩ trivial
    · have H := bf h H
      refine wk ?_
      cases H
      refine iq_e (fun hq => ?_)
      cases hq
      refine wk ?_
      exact weak_of ⟨rfl, rfl, rfl, rfl, trivial⟩ trivial
  refine wk ?_
  cases H
  exact fin_retN rfl rfl rfl rfl rfl rfl
def sl1Byte (a0 : Tl1Cur) : Option (Int × Tl1Cur) :=
  Option.bind (bif ltB a0.fi ((a0.fb.length : Nat) : Int) then (Option.bind (ix a0.fb a0.fi) fun x3 => some (bAnd .i64 (WR ((bAnd .i64 (bXor .i64 (bShr .i64 (WR ((WR (a0.fh * 6364136223846793005)) + 1442695040888963407)) 33) (bShr .i64 (WR ((WR (a0.fh * 6364136223846793005)) + 1442695040888963407)) 47)) 255) + (WR (x3)))) 255, WR (a0.fi + 1))) else (some (bAnd .i64 (bXor .i64 (bShr .i64 (WR ((WR (a0.fh * 6364136223846793005)) + 1442695040888963407)) 33) (bShr .i64 (WR ((WR (a0.fh * 6364136223846793005)) + 1442695040888963407)) 47)) 255, a0.fi))) fun ((v1, v2) : Int × Int) => some (v1, (⟨a0.fb, v2, WR ((WR (a0.fh * 6364136223846793005)) + 1442695040888963407)⟩ : Tl1Cur))
theorem sl1Byte_c {a0 : Tl1Cur} {r : Int × Tl1Cur} (H : sl1Byte a0 = some r) : FnW Tryz.prog 46 (.var 100 [.d false (.l (a0.fb.map eU8)), .d false (.i .i64 a0.fi), .d false (.i .i64 a0.fh)]) [.v (.c (.p 200 0))] (.var 100 [.d false (.l (r.2.fb.map eU8)), .d false (.i .i64 r.2.fi), .d false (.i .i64 r.2.fh)]) [.c (.d (.i .i64 r.1))] := by
  refine fn_inW Tryz.func46 rfl (by kernel_rfl) Tryz.ntmps46 rfl rfl rfl rfl rfl ?_
  refine wkd ?_
  refine dr_n rfl (ishL (b := 33) rfl rfl rfl rfl) ?_
  refine wkd ?_
  refine dr_n rfl (ishL (b := 47) rfl rfl rfl rfl) ?_
  refine wkd ?_
  obtain ⟨⟨v1, v2⟩, Hj, H⟩ := ob H
  refine awc_join ⟨[(3, tI v1)], [(200, .var 100 [.d false (.l (a0.fb.map eU8)), .d false (.i .i64 v2), .d false (.i .i64 (WR ((WR (a0.fh * 6364136223846793005)) + 1442695040888963407)))])], 210⟩ ?_ ?_
  · have H := Hj
    refine wkd ?_
    refine awc_cond rfl (fun h => ?_) (fun h => ?_)
    · have H := bt h H
      refine wkd ?_
      obtain ⟨x3, hx3, H⟩ := ob H
      refine dr_n rfl (xdT (enc := eU8) hx3 (fun _ => rfl) rfl rfl rfl) ?_
      refine wkd ?_
      cases H
      exact weak_of ⟨rfl, rfl, trivial⟩ ⟨rfl, ⟨rfl, rfl⟩, trivial⟩
    · have H := bf h H
      refine wkd ?_
      cases H
      exact weak_of ⟨rfl, rfl, trivial⟩ ⟨rfl, ⟨rfl, rfl⟩, trivial⟩
  refine wkd ?_
  cases H
  exact fin_retW (.cons (.tmp rfl) .nil) rfl rfl rfl rfl (by first | rfl | simp)
def sl1Below (a0 : Tl1Cur) (a1 : Int) : Option (Int × Tl1Cur) :=
  bif leB a1 0 then (some (0, a0)) else (bif leB a1 256 then (Option.bind (sl1Byte a0) fun r1 => bif !eqB a1 0 then (some (Int.tmod r1.1 a1, r1.2)) else none) else (Option.bind (sl1Byte a0) fun r2 => Option.bind (sl1Byte r2.2) fun r3 => Option.bind (sl1Byte r3.2) fun r4 => bif !eqB a1 0 then (some (Int.tmod (WR ((WR ((WR (r2.1 * 65536)) + (WR (r3.1 * 256)))) + r4.1)) a1, r4.2)) else none))
theorem sl1Below_c {a0 : Tl1Cur} {a1 : Int} {r : Int × Tl1Cur} (H : sl1Below a0 a1 = some r) : FnW Tryz.prog 15 (.var 100 [.d false (.l (a0.fb.map eU8)), .d false (.i .i64 a0.fi), .d false (.i .i64 a0.fh)]) [.v (.c (.p 200 0)), tI a1] (.var 100 [.d false (.l (r.2.fb.map eU8)), .d false (.i .i64 r.2.fi), .d false (.i .i64 r.2.fh)]) [.c (.d (.i .i64 r.1))] := by
  refine fn_inW Tryz.func15 rfl (by kernel_rfl) Tryz.ntmps15 rfl rfl rfl rfl rfl ?_
  refine wk ?_
  refine awc_cond rfl (fun h => ?_) (fun h => ?_)
  · have H := bt h H
    refine wk ?_
    cases H
    exact fin_retW (.cons (.tmp rfl) .nil) rfl rfl rfl rfl (by first | rfl | simp)
  · have H := bf h H
    refine wk ?_
    refine awc_cond rfl (fun h => ?_) (fun h => ?_)
    · have H := bt h H
      refine wk ?_
      obtain ⟨r1, hr1, H⟩ := ob H
      refine awr_step rfl (cw (o := 200) (sl1Byte_c hr1) rfl rfl rfl rfl rfl rfl trivial rfl rfl rfl rfl) ?_
      refine wk ?_
      obtain ⟨h, H⟩ := rq H
      refine awr_n rfl (ir rfl rfl rfl (ne0 h)) ?_
      refine wk ?_
      cases H
      exact fin_retW (.cons (.tmp rfl) .nil) rfl rfl rfl rfl (by first | rfl | simp)
    · have H := bf h H
      refine wk ?_
      obtain ⟨r2, hr2, H⟩ := ob H
      refine awr_step rfl (cw (o := 200) (sl1Byte_c hr2) rfl rfl rfl rfl rfl rfl trivial rfl rfl rfl rfl) ?_
      refine wk ?_
      obtain ⟨r3, hr3, H⟩ := ob H
      refine awr_step rfl (cw (o := 200) (sl1Byte_c hr3) rfl rfl rfl rfl rfl rfl trivial rfl rfl rfl rfl) ?_
      refine wk ?_
      obtain ⟨r4, hr4, H⟩ := ob H
      refine awr_step rfl (cw (o := 200) (sl1Byte_c hr4) rfl rfl rfl rfl rfl rfl trivial rfl rfl rfl rfl) ?_
      refine wk ?_
      obtain ⟨h, H⟩ := rq H
      refine awr_n rfl (ir rfl rfl rfl (ne0 h)) ?_
      refine wk ?_
      cases H
      exact fin_retW (.cons (.tmp rfl) .nil) rfl rfl rfl rfl (by first | rfl | simp)
def sl1Int (a0 : Tl1Cur) (a1 : List Int) : Option (Int × Tl1Cur) :=
  Option.bind (sl1Below a0 ((a1.length : Nat) : Int)) fun r1 => Option.bind (ix a1 r1.1) fun x2 => some (x2, r1.2)
theorem sl1Int_c {a0 : Tl1Cur} {a1 : List Int} {r : Int × Tl1Cur} (H : sl1Int a0 a1 = some r) : FnW Tryz.prog 18 (.var 100 [.d false (.l (a0.fb.map eU8)), .d false (.i .i64 a0.fi), .d false (.i .i64 a0.fh)]) [.v (.c (.p 200 0)), .v (.c (.d false (.l (a1.map eI))))] (.var 100 [.d false (.l (r.2.fb.map eU8)), .d false (.i .i64 r.2.fi), .d false (.i .i64 r.2.fh)]) [.c (.d (.i .i64 r.1))] := by
  refine fn_inW Tryz.func18 rfl (by kernel_rfl) Tryz.ntmps18 rfl rfl rfl rfl rfl ?_
  refine wk ?_
  obtain ⟨r1, hr1, H⟩ := ob H
  refine awr_step rfl (cw (o := 200) (sl1Below_c hr1) rfl rfl rfl rfl rfl rfl trivial rfl rfl rfl rfl) ?_
  refine wk ?_
  obtain ⟨x2, hx2, H⟩ := ob H
  refine awr_n rfl (xdT (enc := eI) hx2 (fun _ => rfl) rfl rfl rfl) ?_
  refine wk ?_
  cases H
  exact fin_retW (.cons (.tmp rfl) .nil) rfl rfl rfl rfl (by first | rfl | simp)
def sl10Has_L1 (a0 : List Int) (a1 : Int) : Int → Option (Step (Int) (Bool))
  | v1 => bif ltB v1 ((a0.length : Nat) : Int) then (Option.bind (ix a0 v1) fun x2 => bif eqB x2 a1 then (dn (some true)) else (some (.next (WR (v1 + 1))))) else (dn (some false))
def sl10Has (a0 : List Int) (a1 : Int) : Option Bool :=
  iter (sl10Has_L1 a0 a1) FU 0
theorem sl10Has_c {a0 : List Int} {a1 : Int} {r : Bool} (H : sl10Has a0 a1 = some r) : Fn Tryz.prog 56 [aL (a0.map eI), aI a1] [.c (.d (.b r))] := by
  refine fn_in Tryz.func56 rfl (by kernel_rfl) Tryz.ntmps56 rfl rfl rfl ?_
  refine wk ?_
  refine awc_iter (fun (q : Int) => ⟨[(0, .v (.c (.d false (.l (a0.map eI))))), (1, tI a1), (5, tI q)], [], 0⟩) H (weak_of ⟨rfl, rfl, rfl, rfl, rfl, rfl, trivial⟩ trivial) ?_
  rintro v1 o H
  try dsimp only
  refine wk ?_
  refine awc_cond rfl (fun h => ?_) (fun h => ?_)
  · have H := bt h H
    refine wk ?_
    obtain ⟨x2, hx2, H⟩ := ob H
    refine awr_n rfl (xdT (enc := eI) hx2 (fun _ => rfl) rfl rfl rfl) ?_
    refine wk ?_
    refine awc_cond rfl (fun h => ?_) (fun h => ?_)
    · have H := bt h H
      refine wk ?_
      obtain ⟨r0, Hd, rfl⟩ := dnE H
      refine iq_r (fun hq => ?_)
      have H := Hd.trans (congrArg some hq)
      refine wk ?_
      cases H
      exact fin_ret (.cons (.tmp rfl) .nil) rfl rfl rfl
    · have H := bf h H
      refine wk ?_
      cases H
      refine iq_n ?_
      exact weak_of ⟨rfl, rfl, rfl, rfl, rfl, rfl, trivial⟩ trivial
  · have H := bf h H
    refine wk ?_
    obtain ⟨r0, Hd, rfl⟩ := dnE H
    refine iq_e (fun hq => ?_)
    have H := Hd.trans (congrArg some hq)
    refine wk ?_
    cases H
    exact fin_ret (.cons (.tmp rfl) .nil) rfl rfl rfl
def sl1Once (a0 : Tl1Cur) (a1 : Int) : Option (Bool × Tl1Cur) :=
  Option.bind (sl1Below a0 a1) fun r1 => some (eqB r1.1 0, r1.2)
theorem sl1Once_c {a0 : Tl1Cur} {a1 : Int} {r : Bool × Tl1Cur} (H : sl1Once a0 a1 = some r) : FnW Tryz.prog 73 (.var 100 [.d false (.l (a0.fb.map eU8)), .d false (.i .i64 a0.fi), .d false (.i .i64 a0.fh)]) [.v (.c (.p 200 0)), tI a1] (.var 100 [.d false (.l (r.2.fb.map eU8)), .d false (.i .i64 r.2.fi), .d false (.i .i64 r.2.fh)]) [.c (.d (.b r.1))] := by
  refine fn_inW Tryz.func73 rfl (by kernel_rfl) Tryz.ntmps73 rfl rfl rfl rfl rfl ?_
  refine wk ?_
  obtain ⟨r1, hr1, H⟩ := ob H
  refine awr_step rfl (cw (o := 200) (sl1Below_c hr1) rfl rfl rfl rfl rfl rfl trivial rfl rfl rfl rfl) ?_
  refine wk ?_
  cases H
  exact fin_retW (.cons (.tmp rfl) .nil) rfl rfl rfl rfl (by first | rfl | simp)
def sl10Join (v : List (Int × List Int)) (a b : Int) : Option (List (Int × List Int)) :=
  Option.bind (ix v a) fun x => bif apOk 8 (x.2 ++ [b]).length then (Option.bind (ix (v.set a.toNat (x.1, x.2 ++ [b])) b) fun y => bif apOk 8 (y.2 ++ [a]).length then some ((v.set a.toNat (x.1, x.2 ++ [b])).set b.toNat (y.1, y.2 ++ [a])) else none) else none
theorem sl10Join_c1 {v r : List (Int × List Int)} {a b fi fh : Int} {n : Nat} {fb : List (List D)} (H : sl10Join v a b = some r) (hn : v.length = n) :
    ∃ c, Tryz.f74.body = some c ∧ AWC Tryz.prog 34 c ⟨[(0, .v (.agg [.wn 222 n])), (1, tI a), (2, tI b)], [(200, .var 100 [.d false (.l fb), .d false (.i .i64 fi), .d false (.i .i64 fh)]), (202, .var 26 [.nil]), (203, .var 26 [.wn 222 n]), (222, .cxo 222 102 3 v none), (201, .var 26 [.nil])], 223⟩
     (PostV 34 Tryz.prog [] [(200, .var 100 [.d false (.l fb), .d false (.i .i64 fi), .d false (.i .i64 fh)]), (202, .var 26 [.nil]), (203, .var 26 [.wn 222 n]), (222, .cxo 222 102 3 r none), (201, .var 26 [.nil])] (.tup []) []) := by
  refine ⟨_, rfl, ?_⟩
  refine wkz ?_
  obtain ⟨⟨x1, x2⟩, hx, H⟩ := ob H
  obtain ⟨h, H⟩ := rq H
  have hxx := (ixE hx).2
  refine awc_join ⟨[(1, tI a), (2, tI b), (3, .v (.c (.p 223 0)))], [(200, .var 100 [.d false (.l fb), .d false (.i .i64 fi), .d false (.i .i64 fh)]), (202, .var 26 [.nil]), (203, .var 26 [.wn 222 n]), (223, .var 26 [.wn 222 n]), (222, .cxo 222 102 3 (v.set a.toNat (x1, x2 ++ [b])) none), (201, .var 26 [.nil])], 224⟩ ?_ ?_
  · refine awc_open (o := 222) (i := a.toNat) (e := (x1, x2)) rfl hxx rfl rfl rfl rfl rfl rfl (fun hnil => ?_) (fun k cc => ?_)
    · simp only at hnil
      subst hnil
      refine awc_dz [0, 1, 2, 3, 4, 5, 6, 7, 8, 9, 10, 11, 12, 13, 14] Try.follows (by kernel_rfl) (by kernel_rfl) rfl ?_
      refine wkz ?_
      refine dz_n rfl (xwnT hx hn rfl rfl rfl) ?_
      refine wkz ?_
      refine dz_n rfl (olh hxx rfl rfl rfl) ?_
      refine wkz ?_
      refine dz_n rfl (apNk (zs := [b]) [224] h (by simp) rfl rfl (.w rfl rfl) rfl rfl rfl rfl) ?_
      refine wkz ?_
      refine dz_n rfl (xwnT hx hn rfl rfl rfl) ?_
      refine wkz ?_
      refine dz_bar (by kernel_rfl) rfl (by kernel_rfl) weak_id (bo_n rfl (o_stx (o := 222) (s := 225) (ys := [b]) rfl rfl rfl rfl rfl hxx (.inr ⟨_, _, _, rfl⟩) rfl rfl rfl rfl rfl rfl rfl)) weak_id rfl ?_
      refine wkz ?_
      exact weak_of ⟨rfl, rfl, rfl, rfl, rfl, rfl, trivial⟩ ⟨rfl, ⟨rfl, rfl⟩, rfl, ⟨rfl, rfl⟩, rfl, ⟨rfl, rfl⟩, rfl, ⟨rfl, rfl⟩, rfl, ⟨rfl, rfl⟩, rfl, ⟨rfl, rfl⟩, trivial⟩
    · refine awc_dz [0, 1, 2, 3, 4, 5, 6, 7, 8, 9, 10, 11, 12, 13, 14] Try.follows (by kernel_rfl) (by kernel_rfl) rfl ?_
      refine wkz ?_
      refine dz_n rfl (xwnT hx hn rfl rfl rfl) ?_
      refine wkz ?_
      refine dz_n rfl (olh hxx rfl rfl rfl) ?_
      refine wkz ?_
      refine dz_w rfl (apk (q := 224) (xs := x2) (zs := [b]) [224, 225] h rfl rfl rfl (.w rfl rfl) rfl rfl rfl rfl rfl rfl) ?_
      refine wkz ?_
      refine dz_n rfl (xwnT hx hn rfl rfl rfl) ?_
      refine wkz ?_
      refine dz_bark (ds := [224]) (by kernel_rfl) (by kernel_rfl) rfl (by kernel_rfl) weak_id (bo_n rfl (o_stx (o := 222) (s := 226) (ys := x2 ++ [b]) rfl rfl rfl rfl rfl hxx (.inr ⟨_, _, _, rfl⟩) rfl rfl rfl rfl rfl rfl rfl)) weak_id rfl ?_
      refine wkz ?_
      exact weak_of ⟨rfl, rfl, rfl, rfl, rfl, rfl, trivial⟩ ⟨rfl, ⟨rfl, rfl⟩, rfl, ⟨rfl, rfl⟩, rfl, ⟨rfl, rfl⟩, rfl, ⟨rfl, rfl⟩, rfl, ⟨rfl, rfl⟩, rfl, ⟨rfl, rfl⟩, trivial⟩
  refine wkz ?_
  obtain ⟨⟨y1, y2⟩, hy, H⟩ := ob H
  obtain ⟨h', H⟩ := rq H
  have hyy := (ixE hy).2
  have hn' : (v.set a.toNat (x1, x2 ++ [b])).length = n := by simpa using hn
  refine awc_join ⟨[], [(200, .var 100 [.d false (.l fb), .d false (.i .i64 fi), .d false (.i .i64 fh)]), (202, .var 26 [.nil]), (203, .var 26 [.wn 222 n]), (222, .cxo 222 102 3 ((v.set a.toNat (x1, x2 ++ [b])).set b.toNat (y1, y2 ++ [a])) none), (201, .var 26 [.nil])], 223⟩ ?_ ?_
  · refine awc_open (o := 222) (i := b.toNat) (e := (y1, y2)) rfl hyy rfl rfl rfl rfl rfl rfl (fun hnil => ?_) (fun k cc => ?_)
    · simp only at hnil
      subst hnil
      refine awc_dz [0, 1, 2, 3, 4, 5, 6, 7, 8, 9, 10, 11, 12, 13, 14] Try.follows (by kernel_rfl) (by kernel_rfl) rfl ?_
      refine wkz ?_
      refine dz_n rfl (xwnT hy hn' rfl rfl rfl) ?_
      refine wkz ?_
      refine dz_n rfl (olh hyy rfl rfl rfl) ?_
      refine wkz ?_
      refine dz_n rfl (apNk (zs := [a]) [224] h' (by simp) rfl rfl (.w rfl rfl) rfl rfl rfl rfl) ?_
      refine wkz ?_
      refine dz_n rfl (xwnT hy hn' rfl rfl rfl) ?_
      refine wkz ?_
      refine dz_bar (by kernel_rfl) rfl (by kernel_rfl) weak_id (bo_n rfl (o_stx (o := 222) (s := 225) (ys := [a]) rfl rfl rfl rfl rfl hyy (.inr ⟨_, _, _, rfl⟩) rfl rfl rfl rfl rfl rfl rfl)) weak_id rfl ?_
      refine wkz ?_
      exact weak_of trivial ⟨rfl, ⟨rfl, rfl⟩, rfl, ⟨rfl, rfl⟩, rfl, ⟨rfl, rfl⟩, rfl, ⟨rfl, rfl⟩, rfl, ⟨rfl, rfl⟩, trivial⟩
    · refine awc_dz [0, 1, 2, 3, 4, 5, 6, 7, 8, 9, 10, 11, 12, 13, 14] Try.follows (by kernel_rfl) (by kernel_rfl) rfl ?_
      refine wkz ?_
      refine dz_n rfl (xwnT hy hn' rfl rfl rfl) ?_
      refine wkz ?_
      refine dz_n rfl (olh hyy rfl rfl rfl) ?_
      refine wkz ?_
      refine dz_w rfl (apk (q := 224) (xs := y2) (zs := [a]) [224, 225] h' rfl rfl rfl (.w rfl rfl) rfl rfl rfl rfl rfl rfl) ?_
      refine wkz ?_
      refine dz_n rfl (xwnT hy hn' rfl rfl rfl) ?_
      refine wkz ?_
      refine dz_bark (ds := [224]) (by kernel_rfl) (by kernel_rfl) rfl (by kernel_rfl) weak_id (bo_n rfl (o_stx (o := 222) (s := 226) (ys := y2 ++ [a]) rfl rfl rfl rfl rfl hyy (.inr ⟨_, _, _, rfl⟩) rfl rfl rfl rfl rfl rfl rfl)) weak_id rfl ?_
      refine wkz ?_
      exact weak_of trivial ⟨rfl, ⟨rfl, rfl⟩, rfl, ⟨rfl, rfl⟩, rfl, ⟨rfl, rfl⟩, rfl, ⟨rfl, rfl⟩, rfl, ⟨rfl, rfl⟩, trivial⟩
  cases H
  refine wkz ?_
  exact fin_endV .nil rfl rfl ⟨rfl, rfl, rfl, rfl, rfl, trivial⟩ trivial
theorem sl10Join_len {v r : List (Int × List Int)} {a b : Int} (H : sl10Join v a b = some r) : r.length = v.length := by
  unfold sl10Join at H
  obtain ⟨x, hx, H⟩ := ob H
  obtain ⟨h, H⟩ := rq H
  obtain ⟨y, hy, H⟩ := ob H
  obtain ⟨h', H⟩ := rq H
  cases H
  simp
def sl10Draw_L1 (r1 : Int × Tl1Cur) : (Int × List Int × Int × Int × List Int) → Option (Step (Int × List Int × Int × Int × List Int) (List Int × Int × Int × List Int))
  | (v2, v3, v4, v5, v6) => bif ltB v2 (WR (2 + r1.1)) then (Option.bind (sl1Below (⟨v3, v4, v5⟩ : Tl1Cur) 2) fun r12 => bif apOk 32 (v6 ++ [r12.1]).length then (some (.next (WR (v2 + 1), r12.2.fb, r12.2.fi, r12.2.fh, (v6 ++ [r12.1])))) else none) else (some (.done (v3, v4, v5, v6)))
def sl10Draw_L3 (v13 : Int) : (Int × List Int × Int × Int × List (Int × List Int)) → Option (Step (Int × List Int × Int × Int × List (Int × List Int)) (List Int × Int × Int × List (Int × List Int)))
  | (v43, v44, v45, v46, v47) => bif ltB v43 v13 then (Option.bind (bif eqB v43 (WR (v13 - 1)) then (Option.bind (sl1Once (⟨v44, v45, v46⟩ : Tl1Cur) 5) fun r62 => bif !r62.1 then (some (true, r62.2.fb, r62.2.fi, r62.2.fh)) else (Option.bind (sl1Once r62.2 4) fun r63 => some (r63.1, r63.2.fb, r63.2.fi, r63.2.fh))) else (Option.bind (sl1Once (⟨v44, v45, v46⟩ : Tl1Cur) 4) fun r64 => some (r64.1, r64.2.fb, r64.2.fi, r64.2.fh))) fun ((v58, v59, v60, v61) : Bool × List Int × Int × Int) => Option.bind (bif v58 then (Option.bind (sl10Join v47 v43 v13) fun r65 => some r65) else (some v47)) fun (v62 : List (Int × List Int)) => some (.next (WR (v43 + 1), v59, v60, v61, v62))) else (some (.done (v44, v45, v46, v47)))
def sl10Draw_L2 (r1 : Int × Tl1Cur) : (Int × List Int × Int × Int × List (Int × List Int)) → Option (Step (Int × List Int × Int × Int × List (Int × List Int)) (List Int × Int × Int × List (Int × List Int)))
  | (v13, v14, v15, v16, v17) => bif ltB v13 (WR (2 + r1.1)) then (Option.bind (iter (sl10Draw_L3 v13) FU (0, v14, v15, v16, v17)) fun ((v55, v56, v57, v58) : List Int × Int × Int × List (Int × List Int)) => some (.next (WR (v13 + 1), v55, v56, v57, v58))) else (some (.done (v14, v15, v16, v17)))
def sl10Draw_L5 (r1 : Int × Tl1Cur) (v66 : Int) (v67 : List (Int × List Int)) : (Int × List Int) → Option (Step (Int × List Int) (List Int))
  | (v79, v80) => bif ltB v79 (WR (2 + r1.1)) then (Option.bind (ix v67 v66) fun x85 => Option.bind (sl10Has x85.2 v79) fun r86 => Option.bind (bif r86 then (bif apOk 8 (v80 ++ [v79]).length then (some (v80 ++ [v79])) else none) else (some v80)) fun (v87 : List Int) => some (.next (WR (v79 + 1), v87))) else (some (.done v80))
def sl10Draw_L4 (r1 : Int × Tl1Cur) : (Int × List (Int × List Int)) → Option (Step (Int × List (Int × List Int)) (List (Int × List Int)))
  | (v66, v67) => bif ltB v66 (WR (2 + r1.1)) then (Option.bind (iter (sl10Draw_L5 r1 v66 v67) FU (0, ([] : List Int))) fun (v84 : List Int) => Option.bind (ix v67 v66) fun x88 => some (.next (WR (v66 + 1), (v67.set (v66).toNat (x88.1, v84))))) else (some (.done v67))
def sl10DrawX (a0 : Tl1Cur) : Option (List (Int × List Int) × Tl1Cur) :=
  Option.bind (sl1Below a0 4) fun r1 => Option.bind (iter (sl10Draw_L1 r1) FU (0, r1.2.fb, r1.2.fi, r1.2.fh, ([] : List Int))) fun ((v8, v9, v10, v11) : List Int × Int × Int × List Int) => Option.bind (iter (sl10Draw_L2 r1) FU (1, v8, v9, v10, v11.map fun a => (a, []))) fun ((v40, v41, v42, v43) : List Int × Int × Int × List (Int × List Int)) => Option.bind (iter (sl10Draw_L4 r1) FU (0, v43)) fun (v78 : List (Int × List Int)) => some (v78, (⟨v40, v41, v42⟩ : Tl1Cur))
theorem sl10Draw_x1 {a0 : Tl1Cur} {r : List (Int × List Int) × Tl1Cur} (H : sl10DrawX a0 = some r) {AQ : Exit → St → Prop} [Clo 85 AQ] (hq : AQ .ret ⟨[(2, .v (.c (.p 220 0)))], [(200, .var 100 [.d false (.l (r.2.fb.map eU8)), .d false (.i .i64 r.2.fi), .d false (.i .i64 r.2.fh)]), (220, .var 26 [.wn 222 r.1.length]), (222, .cxo 222 102 3 r.1 none), (201, .var 26 [.nil])], 223⟩) :
    ∃ c, Tryz.f44.body = some c ∧ AWC Tryz.prog 85 c ⟨[(0, .v (.c (.p 200 0)))], [(200, .var 100 [.d false (.l (a0.fb.map eU8)), .d false (.i .i64 a0.fi), .d false (.i .i64 a0.fh)]), (201, .var 26 [.nil])], 220⟩ AQ := by
  refine ⟨_, rfl, ?_⟩
  refine wkz ?_
  obtain ⟨r1, hr1, H⟩ := ob H
  refine awr_step rfl (cw (o := 200) (sl1Below_c hr1) rfl rfl rfl rfl rfl rfl trivial rfl rfl rfl rfl) ?_
  refine wkz ?_
  obtain ⟨⟨v8, v9, v10, v11⟩, Hj, H⟩ := ob H
  refine awc_jblk ⟨[(0, .v (.c (.p 200 0))), (2, .v (.c (.p 220 0))), (3, .v (.c (.p 221 0))), (4, tI (WR (2 + r1.1)))], [(200, .var 100 [.d false (.l (v8.map eU8)), .d false (.i .i64 v9), .d false (.i .i64 v10)]), (220, .var 26 [.nil]), (221, .var 26 [.wn 222 v11.length]), (222, .rown 102 2 (v11.map encA) true), (201, .var 26 [.nil])], 223⟩ ?_ ?_
  · refine wkz ?_
    refine awc_iter (fun (q : Int × List Int × Int × Int × List Int) => ⟨[(0, .v (.c (.p 200 0))), (2, .v (.c (.p 220 0))), (3, .v (.c (.p 221 0))), (4, tI (WR (2 + r1.1))), (5, tI q.1)], [(200, .var 100 [.d false (.l (q.2.1.map eU8)), .d false (.i .i64 q.2.2.1), .d false (.i .i64 q.2.2.2.1)]), (220, .var 26 [.nil]), (221, .var 26 [.wn 222 q.2.2.2.2.length]), (222, .rown 102 2 (q.2.2.2.2.map encA) true), (201, .var 26 [.nil])], 223⟩) Hj (by refine weak_trans (weak_nnV (o := 221) (j := 0) 102 2 true rfl rfl rfl rfl rfl) ?_; refine weak_trans (weak_wnB (o := 222) (n := ([] : List Int).length) rfl rfl (by repeat (first | exact trivial | refine ⟨by first | rfl | simp, ?_⟩)) (by repeat (first | exact trivial | refine ⟨by first | rfl | simp, ?_⟩))) ?_; exact weak_of ⟨rfl, rfl, rfl, rfl, rfl, rfl, rfl, rfl, rfl, rfl, trivial⟩ ⟨rfl, ⟨rfl, rfl⟩, rfl, ⟨rfl, rfl⟩, rfl, ⟨rfl, rfl⟩, rfl, ⟨rfl, rfl⟩, rfl, ⟨rfl, rfl⟩, trivial⟩) ?_
    rintro ⟨v2, v3, v4, v5, v6⟩ o H
    try dsimp only
    refine wkz ?_
    refine awc_cond rfl (fun h => ?_) (fun h => ?_)
    · have H := bt h H
      refine wkz ?_
      refine awc_dz [0, 1, 2, 3, 4, 5, 6, 7, 8] Try.follows (by kernel_rfl) (by kernel_rfl) rfl ?_
      refine wkz ?_
      obtain ⟨r12, hr12, H⟩ := ob H
      refine dz_w rfl (cwx (o := 200) (sl1Below_c hr12) rfl rfl rfl rfl rfl rfl trivial rfl rfl rfl rfl) ?_
      refine dz_n rfl (bdk rfl rfl rfl rfl) ?_
      refine wkz ?_
      obtain ⟨h, H⟩ := rq H
      refine dz_bar (by kernel_rfl) rfl (by kernel_rfl) weak_id (bo_n rfl (apTn (enc := encA) (ys := v6) (zs := [r12.1]) h (by first | exact List.cons_ne_nil _ _ | simp) rfl (fun _ => rfl) (by first | rfl | simp) (.w rfl (by first | rfl | exact lm _ | simp)) rfl rfl rfl rfl rfl rfl rfl rfl rfl rfl)) weak_id rfl ?_
      refine wkz ?_
      refine dz_w rfl (spx 100015 rfl rfl rfl rfl rfl rfl rfl rfl) ?_
      refine wkz ?_
      cases H
      refine iq_n ?_
      refine weak_trans (weak_toN 222 rfl rfl rfl) ?_
      exact weak_of ⟨rfl, rfl, rfl, rfl, rfl, rfl, rfl, rfl, rfl, rfl, trivial⟩ ⟨rfl, ⟨rfl, rfl⟩, rfl, ⟨rfl, rfl⟩, rfl, ⟨rfl, rfl⟩, rfl, ⟨rfl, rfl⟩, rfl, ⟨rfl, rfl⟩, trivial⟩
    · have H := bf h H
      refine wkz ?_
      cases H
      refine iq_e (fun hq => ?_)
      cases hq
      refine wkz ?_
      exact weak_of ⟨rfl, rfl, rfl, rfl, rfl, rfl, rfl, rfl, trivial⟩ ⟨rfl, ⟨rfl, rfl⟩, rfl, ⟨rfl, rfl⟩, rfl, ⟨rfl, rfl⟩, rfl, ⟨rfl, rfl⟩, rfl, ⟨rfl, rfl⟩, trivial⟩
  refine wkz ?_
  refine awc_weak (weak_cx (o := 222) (nt := 3) (al := v11) rfl rfl) ?_
  refine awc_weak (weak_wnB (o := 222) (n := (v11.map fun a => ((a, []) : Int × List Int)).length) rfl rfl (by repeat (first | exact trivial | refine ⟨by first | rfl | simp, ?_⟩)) (by repeat (first | exact trivial | refine ⟨by first | rfl | simp, ?_⟩))) ?_
  obtain ⟨⟨v40, v41, v42, v43⟩, Hj, H⟩ := ob H
  refine awc_jblk ⟨[(2, .v (.c (.p 220 0))), (3, .v (.c (.p 221 0))), (4, tI (WR (2 + r1.1)))], [(200, .var 100 [.d false (.l (v40.map eU8)), .d false (.i .i64 v41), .d false (.i .i64 v42)]), (220, .var 26 [.nil]), (221, .var 26 [.wn 222 v43.length]), (222, .cxo 222 102 3 v43 none), (201, .var 26 [.nil])], 223⟩ ?_ ?_
  · refine wkz ?_
    refine awc_iter (fun (q : Int × List Int × Int × Int × List (Int × List Int)) => ⟨[(0, .v (.c (.p 200 0))), (2, .v (.c (.p 220 0))), (3, .v (.c (.p 221 0))), (4, tI (WR (2 + r1.1))), (6, tI q.1)], [(200, .var 100 [.d false (.l (q.2.1.map eU8)), .d false (.i .i64 q.2.2.1), .d false (.i .i64 q.2.2.2.1)]), (220, .var 26 [.nil]), (221, .var 26 [.wn 222 q.2.2.2.2.length]), (222, .cxo 222 102 3 q.2.2.2.2 none), (201, .var 26 [.nil])], 223⟩) Hj (weak_of ⟨rfl, rfl, rfl, rfl, rfl, rfl, rfl, rfl, rfl, rfl, trivial⟩ ⟨rfl, ⟨rfl, rfl⟩, rfl, ⟨rfl, rfl⟩, rfl, ⟨rfl, rfl⟩, rfl, ⟨rfl, rfl⟩, rfl, ⟨rfl, rfl⟩, trivial⟩) ?_
    rintro ⟨v13, v14, v15, v16, v17⟩ o H
    try dsimp only
    refine wkz ?_
    refine awc_cond rfl (fun h => ?_) (fun h => ?_)
    · have H := bt h H
      refine wkz ?_
      obtain ⟨⟨v55, v56, v57, v58⟩, Hj, H⟩ := ob H
      refine awc_jblk ⟨[(0, .v (.c (.p 200 0))), (2, .v (.c (.p 220 0))), (3, .v (.c (.p 221 0))), (4, tI (WR (2 + r1.1))), (6, tI v13)], [(200, .var 100 [.d false (.l (v55.map eU8)), .d false (.i .i64 v56), .d false (.i .i64 v57)]), (220, .var 26 [.nil]), (221, .var 26 [.wn 222 v58.length]), (222, .cxo 222 102 3 v58 none), (201, .var 26 [.nil])], 223⟩ ?_ ?_
      · refine wkz ?_
        refine awc_iter (fun (q : Int × List Int × Int × Int × List (Int × List Int)) => ⟨[(0, .v (.c (.p 200 0))), (2, .v (.c (.p 220 0))), (3, .v (.c (.p 221 0))), (4, tI (WR (2 + r1.1))), (6, tI v13), (7, tI q.1)], [(200, .var 100 [.d false (.l (q.2.1.map eU8)), .d false (.i .i64 q.2.2.1), .d false (.i .i64 q.2.2.2.1)]), (220, .var 26 [.nil]), (221, .var 26 [.wn 222 q.2.2.2.2.length]), (222, .cxo 222 102 3 q.2.2.2.2 none), (201, .var 26 [.nil])], 223⟩) Hj (weak_of ⟨rfl, rfl, rfl, rfl, rfl, rfl, rfl, rfl, rfl, rfl, rfl, rfl, trivial⟩ ⟨rfl, ⟨rfl, rfl⟩, rfl, ⟨rfl, rfl⟩, rfl, ⟨rfl, rfl⟩, rfl, ⟨rfl, rfl⟩, rfl, ⟨rfl, rfl⟩, trivial⟩) ?_
        rintro ⟨v43, v44, v45, v46, v47⟩ o H
        try dsimp only
        refine wkz ?_
        refine awc_cond rfl (fun h => ?_) (fun h => ?_)
        · have H := bt h H
          refine wkz ?_
          obtain ⟨⟨v58, v59, v60, v61⟩, Hj, H⟩ := ob H
          refine awr_join ⟨[(0, .v (.c (.p 200 0))), (2, .v (.c (.p 220 0))), (3, .v (.c (.p 221 0))), (4, tI (WR (2 + r1.1))), (6, tI v13), (7, tI v43), (50, tB v58)], [(200, .var 100 [.d false (.l (v59.map eU8)), .d false (.i .i64 v60), .d false (.i .i64 v61)]), (220, .var 26 [.nil]), (221, .var 26 [.wn 222 v47.length]), (222, .cxo 222 102 3 v47 none), (201, .var 26 [.nil])], 223⟩ ?_ ?_
          · have H := Hj
            refine wkz ?_
            refine g2 rfl rfl rfl (fun h => ?_) (fun h => ?_)
            · have H := bt h H
              refine wkz ?_
              obtain ⟨r62, hr62, H⟩ := ob H
              refine awr_guard_run rfl rfl (blt_lt rfl) rfl (cw (o := 200) (sl1Once_c hr62) rfl rfl rfl rfl rfl rfl trivial rfl rfl rfl rfl) ?_
              refine wkz ?_
              refine g2 rfl rfl rfl (fun h => ?_) (fun h => ?_)
              · have H := bt h H
                refine wkz ?_
                cases H
                exact weak_of ⟨rfl, rfl, rfl, rfl, rfl, rfl, rfl, rfl, rfl, rfl, rfl, rfl, rfl, rfl, trivial⟩ ⟨rfl, ⟨rfl, rfl⟩, rfl, ⟨rfl, rfl⟩, rfl, ⟨rfl, rfl⟩, rfl, ⟨rfl, rfl⟩, rfl, ⟨rfl, rfl⟩, trivial⟩
              · have H := bf h H
                refine wkz ?_
                obtain ⟨r63, hr63, H⟩ := ob H
                refine awr_guard_run rfl rfl (blt_lt rfl) rfl (cw (o := 200) (sl1Once_c hr63) rfl rfl rfl rfl rfl rfl trivial rfl rfl rfl rfl) ?_
                refine wkz ?_
                cases H
                exact weak_of ⟨rfl, rfl, rfl, rfl, rfl, rfl, rfl, rfl, rfl, rfl, rfl, rfl, rfl, rfl, trivial⟩ ⟨rfl, ⟨rfl, rfl⟩, rfl, ⟨rfl, rfl⟩, rfl, ⟨rfl, rfl⟩, rfl, ⟨rfl, rfl⟩, rfl, ⟨rfl, rfl⟩, trivial⟩
            · have H := bf h H
              refine wkz ?_
              obtain ⟨r64, hr64, H⟩ := ob H
              refine awr_guard_run rfl rfl (blt_lt rfl) rfl (cw (o := 200) (sl1Once_c hr64) rfl rfl rfl rfl rfl rfl trivial rfl rfl rfl rfl) ?_
              refine wkz ?_
              cases H
              exact weak_of ⟨rfl, rfl, rfl, rfl, rfl, rfl, rfl, rfl, rfl, rfl, rfl, rfl, rfl, rfl, trivial⟩ ⟨rfl, ⟨rfl, rfl⟩, rfl, ⟨rfl, rfl⟩, rfl, ⟨rfl, rfl⟩, rfl, ⟨rfl, rfl⟩, rfl, ⟨rfl, rfl⟩, trivial⟩
          refine wkz ?_
          obtain ⟨v62, Hj, H⟩ := ob H
          refine awc_join ⟨[(0, .v (.c (.p 200 0))), (2, .v (.c (.p 220 0))), (3, .v (.c (.p 221 0))), (4, tI (WR (2 + r1.1))), (6, tI v13), (7, tI v43)], [(200, .var 100 [.d false (.l (v59.map eU8)), .d false (.i .i64 v60), .d false (.i .i64 v61)]), (220, .var 26 [.nil]), (221, .var 26 [.wn 222 v62.length]), (222, .cxo 222 102 3 v62 none), (201, .var 26 [.nil])], 223⟩ ?_ ?_
          · have H := Hj
            refine wkz ?_
            refine awc_cond rfl (fun h => ?_) (fun h => ?_)
            · have H := bt h H
              refine wkz ?_
              obtain ⟨r65, hr65, H⟩ := ob H
              obtain ⟨cJ, hcJ, hJ⟩ := sl10Join_c1 (fb := v59.map eU8) (fi := v60) (fh := v61) hr65 rfl
              refine awr_step rfl (o_inl (m := [(200, 200), (202, 220), (203, 221), (222, 222), (201, 201)]) (m' := [(200, 200), (202, 220), (203, 221), (222, 222), (201, 201)]) (nx' := 223) Tryz.func74 hcJ (by kernel_rfl) Tryz.ntmps74 rfl hJ rfl rfl rfl rfl rfl rfl rfl rfl rfl rfl rfl) ?_
              refine wkz ?_
              cases H
              refine weak_trans (weak_wnB (o := 222) (n := v62.length) rfl rfl (by repeat (first | exact trivial | refine ⟨by first | rfl | exact (sl10Join_len hr65).symm | exact sl10Join_len hr65 | simp, ?_⟩)) (by repeat (first | exact trivial | refine ⟨by first | rfl | exact (sl10Join_len hr65).symm | exact sl10Join_len hr65 | simp, ?_⟩))) ?_
              exact weak_of ⟨rfl, rfl, rfl, rfl, rfl, rfl, rfl, rfl, rfl, rfl, rfl, rfl, trivial⟩ ⟨rfl, ⟨rfl, rfl⟩, rfl, ⟨rfl, rfl⟩, rfl, ⟨rfl, rfl⟩, rfl, ⟨rfl, rfl⟩, rfl, ⟨rfl, rfl⟩, trivial⟩
            · have H := bf h H
              refine wkz ?_
              cases H
              exact weak_of ⟨rfl, rfl, rfl, rfl, rfl, rfl, rfl, rfl, rfl, rfl, rfl, rfl, trivial⟩ ⟨rfl, ⟨rfl, rfl⟩, rfl, ⟨rfl, rfl⟩, rfl, ⟨rfl, rfl⟩, rfl, ⟨rfl, rfl⟩, rfl, ⟨rfl, rfl⟩, trivial⟩
          refine wkz ?_
          cases H
          refine iq_n ?_
          exact weak_of ⟨rfl, rfl, rfl, rfl, rfl, rfl, rfl, rfl, rfl, rfl, rfl, rfl, trivial⟩ ⟨rfl, ⟨rfl, rfl⟩, rfl, ⟨rfl, rfl⟩, rfl, ⟨rfl, rfl⟩, rfl, ⟨rfl, rfl⟩, rfl, ⟨rfl, rfl⟩, trivial⟩
        · have H := bf h H
          refine wkz ?_
          cases H
          refine iq_e (fun hq => ?_)
          cases hq
          refine wkz ?_
          exact weak_of ⟨rfl, rfl, rfl, rfl, rfl, rfl, rfl, rfl, rfl, rfl, trivial⟩ ⟨rfl, ⟨rfl, rfl⟩, rfl, ⟨rfl, rfl⟩, rfl, ⟨rfl, rfl⟩, rfl, ⟨rfl, rfl⟩, rfl, ⟨rfl, rfl⟩, trivial⟩
      refine wkz ?_
      cases H
      refine iq_n ?_
      exact weak_of ⟨rfl, rfl, rfl, rfl, rfl, rfl, rfl, rfl, rfl, rfl, trivial⟩ ⟨rfl, ⟨rfl, rfl⟩, rfl, ⟨rfl, rfl⟩, rfl, ⟨rfl, rfl⟩, rfl, ⟨rfl, rfl⟩, rfl, ⟨rfl, rfl⟩, trivial⟩
    · have H := bf h H
      refine wkz ?_
      cases H
      refine iq_e (fun hq => ?_)
      cases hq
      refine wkz ?_
      exact weak_of ⟨rfl, rfl, rfl, rfl, rfl, rfl, trivial⟩ ⟨rfl, ⟨rfl, rfl⟩, rfl, ⟨rfl, rfl⟩, rfl, ⟨rfl, rfl⟩, rfl, ⟨rfl, rfl⟩, rfl, ⟨rfl, rfl⟩, trivial⟩
  refine wkz ?_
  obtain ⟨v78, Hj, H⟩ := ob H
  refine awc_jblk ⟨[(2, .v (.c (.p 220 0))), (3, .v (.c (.p 221 0)))], [(200, .var 100 [.d false (.l (v40.map eU8)), .d false (.i .i64 v41), .d false (.i .i64 v42)]), (220, .var 26 [.nil]), (221, .var 26 [.wn 222 v78.length]), (222, .cxo 222 102 3 v78 none), (201, .var 26 [.nil])], 223⟩ ?_ ?_
  · refine wkz ?_
    refine awc_iter (fun (q : Int × List (Int × List Int)) => ⟨[(2, .v (.c (.p 220 0))), (3, .v (.c (.p 221 0))), (4, tI (WR (2 + r1.1))), (8, tI q.1)], [(200, .var 100 [.d false (.l (v40.map eU8)), .d false (.i .i64 v41), .d false (.i .i64 v42)]), (220, .var 26 [.nil]), (221, .var 26 [.wn 222 q.2.length]), (222, .cxo 222 102 3 q.2 none), (201, .var 26 [.nil])], 223⟩) Hj (weak_of ⟨rfl, rfl, rfl, rfl, rfl, rfl, rfl, rfl, trivial⟩ ⟨rfl, ⟨rfl, rfl⟩, rfl, ⟨rfl, rfl⟩, rfl, ⟨rfl, rfl⟩, rfl, ⟨rfl, rfl⟩, rfl, ⟨rfl, rfl⟩, trivial⟩) ?_
    rintro ⟨v66, v67⟩ o H
    try dsimp only
    refine wkz ?_
    refine awc_cond rfl (fun h => ?_) (fun h => ?_)
    · have H := bt h H
      refine wkz ?_
      obtain ⟨v84, Hj, H⟩ := ob H
      refine awc_jblk ⟨[(2, .v (.c (.p 220 0))), (3, .v (.c (.p 221 0))), (4, tI (WR (2 + r1.1))), (8, tI v66), (9, .v (.c (.w 223 v84.length)))], [(200, .var 100 [.d false (.l (v40.map eU8)), .d false (.i .i64 v41), .d false (.i .i64 v42)]), (220, .var 26 [.nil]), (221, .var 26 [.wn 222 v67.length]), (222, .cxo 222 102 3 v67 none), (223, .row 3 1 (v84.map eI) true true), (201, .var 26 [.nil])], 224⟩ ?_ ?_
      · refine wkz ?_
        refine awc_iter (fun (q : Int × List Int) => ⟨[(2, .v (.c (.p 220 0))), (3, .v (.c (.p 221 0))), (4, tI (WR (2 + r1.1))), (8, tI v66), (9, .v (.c (.w 223 q.2.length))), (10, tI q.1)], [(200, .var 100 [.d false (.l (v40.map eU8)), .d false (.i .i64 v41), .d false (.i .i64 v42)]), (220, .var 26 [.nil]), (221, .var 26 [.wn 222 v67.length]), (222, .cxo 222 102 3 v67 none), (223, .row 3 1 (q.2.map eI) true true), (201, .var 26 [.nil])], 224⟩) Hj (weak_of ⟨rfl, rfl, rfl, rfl, rfl, rfl, rfl, rfl, wn rfl (by first | rfl | simp), rfl, rfl, rfl, trivial⟩ ⟨rfl, ⟨rfl, rfl⟩, rfl, ⟨rfl, rfl⟩, rfl, ⟨rfl, rfl⟩, rfl, ⟨rfl, rfl⟩, rfl, ⟨rfl, rfl⟩, rfl, ⟨rfl, rfl⟩, trivial⟩) ?_
        rintro ⟨v79, v80⟩ o H
        try dsimp only
        refine wkz ?_
        refine awc_cond rfl (fun h => ?_) (fun h => ?_)
        · have H := bt h H
          refine wkz ?_
          obtain ⟨x85, hx85, H⟩ := ob H
          refine awr_n rfl (xwnT hx85 rfl rfl rfl rfl) ?_
          refine wkz ?_
          refine awr_n rfl (olx (ixE hx85).2 rfl rfl rfl) ?_
          refine wkz ?_
          obtain ⟨r86, hr86, H⟩ := ob H
          refine awr_n rfl (ca rfl rfl rfl (sl10Has_c hr86) trivial rfl rfl rfl rfl) ?_
          refine wkz ?_
          obtain ⟨v87, Hj, H⟩ := ob H
          refine awc_join ⟨[(2, .v (.c (.p 220 0))), (3, .v (.c (.p 221 0))), (4, tI (WR (2 + r1.1))), (8, tI v66), (9, .v (.c (.w 223 v87.length))), (10, tI v79)], [(200, .var 100 [.d false (.l (v40.map eU8)), .d false (.i .i64 v41), .d false (.i .i64 v42)]), (220, .var 26 [.nil]), (221, .var 26 [.wn 222 v67.length]), (222, .cxo 222 102 3 v67 none), (223, .row 3 1 (v87.map eI) true true), (201, .var 26 [.nil])], 224⟩ ?_ ?_
          · have H := Hj
            refine wkz ?_
            refine awc_cond rfl (fun h => ?_) (fun h => ?_)
            · have H := bt h H
              refine wkz ?_
              obtain ⟨h, H⟩ := rq H
              refine awr_step rfl (apT (enc := eI) (ys := v80) (zs := [v79]) h rfl (fun _ => rfl) (by first | rfl | simp) (.w rfl (by first | rfl | exact lm _ | simp)) rfl rfl rfl rfl rfl rfl rfl rfl) ?_
              refine wkz ?_
              cases H
              exact weak_of ⟨rfl, rfl, rfl, rfl, rfl, rfl, rfl, rfl, wn rfl (by first | rfl | simp), rfl, rfl, rfl, trivial⟩ ⟨rfl, ⟨rfl, rfl⟩, rfl, ⟨rfl, rfl⟩, rfl, ⟨rfl, rfl⟩, rfl, ⟨rfl, rfl⟩, rfl, ⟨rfl, rfl⟩, rfl, ⟨rfl, rfl⟩, trivial⟩
            · have H := bf h H
              refine wkz ?_
              cases H
              exact weak_of ⟨rfl, rfl, rfl, rfl, rfl, rfl, rfl, rfl, wn rfl (by first | rfl | simp), rfl, rfl, rfl, trivial⟩ ⟨rfl, ⟨rfl, rfl⟩, rfl, ⟨rfl, rfl⟩, rfl, ⟨rfl, rfl⟩, rfl, ⟨rfl, rfl⟩, rfl, ⟨rfl, rfl⟩, rfl, ⟨rfl, rfl⟩, trivial⟩
          refine wkz ?_
          cases H
          refine iq_n ?_
          exact weak_of ⟨rfl, rfl, rfl, rfl, rfl, rfl, rfl, rfl, wn rfl (by first | rfl | simp), rfl, rfl, rfl, trivial⟩ ⟨rfl, ⟨rfl, rfl⟩, rfl, ⟨rfl, rfl⟩, rfl, ⟨rfl, rfl⟩, rfl, ⟨rfl, rfl⟩, rfl, ⟨rfl, rfl⟩, rfl, ⟨rfl, rfl⟩, trivial⟩
        · have H := bf h H
          refine wkz ?_
          cases H
          refine iq_e (fun hq => ?_)
          cases hq
          refine wkz ?_
          exact weak_of ⟨rfl, rfl, rfl, rfl, rfl, rfl, rfl, rfl, wn rfl (by first | rfl | simp), rfl, trivial⟩ ⟨rfl, ⟨rfl, rfl⟩, rfl, ⟨rfl, rfl⟩, rfl, ⟨rfl, rfl⟩, rfl, ⟨rfl, rfl⟩, rfl, ⟨rfl, rfl⟩, rfl, ⟨rfl, rfl⟩, trivial⟩
      refine wkz ?_
      obtain ⟨x88, hx88, H⟩ := ob H
      refine awr_n rfl (xwnT hx88 rfl rfl rfl rfl) ?_
      refine wkz ?_
      refine awr_step rfl (o_stx (o := 222) (s := 223) (ys := v84) rfl rfl rfl rfl rfl (ixE hx88).2 (.inl rfl) rfl rfl rfl rfl rfl rfl rfl) ?_
      refine wkz ?_
      cases H
      refine iq_n ?_
      refine weak_trans (weak_wnB (o := 222) (n := (v67.set (v66).toNat (x88.1, v84)).length) rfl rfl (by repeat (first | exact trivial | refine ⟨by first | rfl | simp, ?_⟩)) (by repeat (first | exact trivial | refine ⟨by first | rfl | simp, ?_⟩))) ?_
      exact weak_of ⟨rfl, rfl, rfl, rfl, rfl, rfl, rfl, rfl, trivial⟩ ⟨rfl, ⟨rfl, rfl⟩, rfl, ⟨rfl, rfl⟩, rfl, ⟨rfl, rfl⟩, rfl, ⟨rfl, rfl⟩, rfl, ⟨rfl, rfl⟩, trivial⟩
    · have H := bf h H
      refine wkz ?_
      cases H
      refine iq_e (fun hq => ?_)
      cases hq
      refine wkz ?_
      exact weak_of ⟨rfl, rfl, rfl, rfl, trivial⟩ ⟨rfl, ⟨rfl, rfl⟩, rfl, ⟨rfl, rfl⟩, rfl, ⟨rfl, rfl⟩, rfl, ⟨rfl, rfl⟩, rfl, ⟨rfl, rfl⟩, trivial⟩
  refine wkz ?_
  cases H
  refine clo_w (N := 85) ?_ hq
  exact weak_of ⟨rfl, rfl, trivial⟩ ⟨rfl, ⟨rfl, rfl⟩, rfl, ⟨rfl, rfl⟩, rfl, ⟨rfl, rfl⟩, rfl, ⟨rfl, rfl⟩, trivial⟩
theorem cells_enc (v : List (Int × List Int)) : v.map encCx = (v.map fun e => (⟨e.1, e.2⟩ : TCell)).map eTCell := by rw [List.map_map]; rfl
def sl10Any (a0 : Tl1Cur) : Option (TCellMap × Tl1Cur) :=
  Option.bind (sl10DrawX a0) fun r1 => Option.bind (sl1Below r1.2 ((r1.1.length : Nat) : Int)) fun r2 => Option.bind (sl1Below r2.2 10) fun r3 => Option.bind (bif eqB r3.1 0 then (Option.bind (sl1Int r3.2 [-1, 2, 3]) fun r4 => Option.bind (ix (r1.1.map fun e => (⟨e.1, e.2⟩ : TCell)) r2.1) fun x => some ((r1.1.map fun e => (⟨e.1, e.2⟩ : TCell)).set r2.1.toNat (⟨r4.1, x.Neighbors⟩ : TCell), r4.2.fb, r4.2.fi, r4.2.fh)) else (bif eqB r3.1 1 then (Option.bind (ix r1.1 r2.1) fun x => Option.bind (sl1Below r3.2 8) fun r4 => bif apOk 8 (x.2 ++ [WR (r4.1 - 1)]).length then some ((r1.1.set r2.1.toNat (x.1, x.2 ++ [WR (r4.1 - 1)])).map fun e => (⟨e.1, e.2⟩ : TCell), r4.2.fb, r4.2.fi, r4.2.fh) else none) else (bif eqB r3.1 2 then (Option.bind (ix (r1.1.map fun e => (⟨e.1, e.2⟩ : TCell)) r2.1) fun x => some ((r1.1.map fun e => (⟨e.1, e.2⟩ : TCell)).set r2.1.toNat (⟨x.Area, []⟩ : TCell), r3.2.fb, r3.2.fi, r3.2.fh)) else (bif eqB r3.1 3 then some (([] : List TCell), r3.2.fb, r3.2.fi, r3.2.fh) else some (r1.1.map fun e => (⟨e.1, e.2⟩ : TCell), r3.2.fb, r3.2.fi, r3.2.fh))))) fun ((v5, v6, v7, v8) : List TCell × List Int × Int × Int) => some ((⟨v5⟩ : TCellMap), (⟨v6, v7, v8⟩ : Tl1Cur))
theorem sl10Any_c {a0 : Tl1Cur} {r : TCellMap × Tl1Cur} (H : sl10Any a0 = some r) : FnV Tryz.prog 13 [(200, .var 100 [.d false (.l (a0.fb.map eU8)), .d false (.i .i64 a0.fi), .d false (.i .i64 a0.fh)])] [.v (.c (.p 200 0))] [(200, .var 100 [.d false (.l (r.2.fb.map eU8)), .d false (.i .i64 r.2.fi), .d false (.i .i64 r.2.fh)])] (.v (.agg [.wn 210 r.1.Cells.length])) [(210, .rown 102 2 (r.1.Cells.map eTCell) true)] := by
  refine fn_inV Tryz.func13 rfl (by kernel_rfl) Tryz.ntmps13 rfl rfl rfl ?_
  refine wkz ?_
  obtain ⟨⟨v, cu⟩, hX, H⟩ := ob H
  obtain ⟨cD, hcD, hD⟩ := sl10Draw_x1 hX (AQ := PostV 85 Tryz.prog [ResultVar.cell 2 26] [(200, .var 100 [.d false (.l (cu.fb.map eU8)), .d false (.i .i64 cu.fi), .d false (.i .i64 cu.fh)]), (222, .cxo 222 102 3 v none), (201, .var 26 [.nil])] (.v (.agg [.wn 222 v.length])) []) (fin_retV (.cons (.cell rfl rfl rfl) .nil) rfl rfl ⟨rfl, rfl, rfl, trivial⟩ trivial)
  refine awr_weak (weak_up (nx' := 220) rfl) ?_
  refine awr_step rfl (o_inl (m := [(200, 200), (201, 210)]) (m' := [(200, 200), (201, 210), (222, 222)]) (nx' := 223) Tryz.func44 hcD (by kernel_rfl) Tryz.ntmps44 rfl hD rfl rfl rfl rfl rfl rfl rfl rfl rfl rfl rfl) ?_
  refine wkz ?_
  obtain ⟨r2, hr2, H⟩ := ob H
  refine awr_step rfl (cw (o := 200) (sl1Below_c hr2) rfl rfl rfl rfl rfl rfl trivial rfl rfl rfl rfl) ?_
  refine wkz ?_
  obtain ⟨r3, hr3, H⟩ := ob H
  refine awr_step rfl (cw (o := 200) (sl1Below_c hr3) rfl rfl rfl rfl rfl rfl trivial rfl rfl rfl rfl) ?_
  refine wkz ?_
  simp only at H
  obtain ⟨⟨v5, v6, v7, v8⟩, Hj, H⟩ := ob H
  refine awc_jblk ⟨[(2, .v (.c (.p 210 0))), (3, .v (.c (.p 223 0)))], [(200, .var 100 [.d false (.l (v6.map eU8)), .d false (.i .i64 v7), .d false (.i .i64 v8)]), (210, .var 26 [.nil]), (223, .var 26 [.wn 222 v5.length]), (222, .rown 102 2 (v5.map eTCell) true)], 224⟩ ?_ ?_
  · have H := Hj
    refine awc_cond rfl (fun h => ?_) (fun h => ?_)
    · have H := bt h H
      refine awc_weak (weak_frzcx (o := 222) rfl rfl rfl rfl rfl) ?_
      rw [cells_enc]
      refine awc_dz [0, 1, 2, 3, 4, 5, 6, 7, 8] Try.follows (by kernel_rfl) (by kernel_rfl) rfl ?_
      refine dz_n rfl (fp rfl rfl rfl) ?_
      refine dz_n rfl (op rfl rfl rfl rfl) ?_
      refine dz_n rfl (mv1 rfl rfl) ?_
      refine dz_n rfl (mv1 rfl rfl) ?_
      refine dz_w rfl (bsx (bs rfl rfl rfl rfl rfl rfl rfl rfl) rfl) ?_
      obtain ⟨r4, hr4, H⟩ := ob H
      refine dz_w rfl (cwx (o := 200) (sl1Int_c hr4) rfl rfl rfl rfl rfl rfl trivial rfl rfl rfl rfl) ?_
      refine wkz ?_
      obtain ⟨x, hx, H⟩ := ob H
      refine dz_n rfl (xwnT hx (by simp) rfl rfl rfl) ?_
      refine wkz ?_
      refine dz_bar (by kernel_rfl) rfl (by kernel_rfl) (weak_unN 222 rfl (ix_nn (enc := eTCell) hx) rfl rfl) (bo_n rfl (soT (enc := eTCell) (a' := (⟨r4.1, x.Neighbors⟩ : TCell)) hx rfl rfl rfl rfl rfl rfl rfl)) weak_id rfl ?_
      refine wkz ?_
      cases H
      refine weak_trans (weak_toN 222 rfl rfl rfl) ?_
      refine weak_trans (weak_wnB (o := 222) (n := ((v.map fun e => (⟨e.1, e.2⟩ : TCell)).set r2.1.toNat (⟨r4.1, x.Neighbors⟩ : TCell)).length) rfl rfl (by repeat (first | exact trivial | refine ⟨by first | rfl | simp, ?_⟩)) (by repeat (first | exact trivial | refine ⟨by first | rfl | simp, ?_⟩))) ?_
      exact weak_of ⟨rfl, rfl, rfl, rfl, trivial⟩ ⟨rfl, ⟨rfl, rfl⟩, rfl, ⟨rfl, rfl⟩, rfl, ⟨rfl, rfl⟩, rfl, ⟨rfl, rfl⟩, trivial⟩
    · have H := bf h H
      refine wkz ?_
      refine awc_cond rfl (fun h => ?_) (fun h => ?_)
      · have H := bt h H
        obtain ⟨⟨x1, x2⟩, hx, H⟩ := ob H
        obtain ⟨r4, hr4, H⟩ := ob H
        obtain ⟨h, H⟩ := rq H
        have hxx := (ixE hx).2
        refine awc_join ⟨[(2, .v (.c (.p 210 0))), (3, .v (.c (.p 223 0)))], [(200, .var 100 [.d false (.l (r4.2.fb.map eU8)), .d false (.i .i64 r4.2.fi), .d false (.i .i64 r4.2.fh)]), (210, .var 26 [.nil]), (223, .var 26 [.wn 222 v.length]), (222, .cxo 222 102 3 (v.set r2.1.toNat (x1, x2 ++ [WR (r4.1 - 1)])) none)], 224⟩ ?_ ?_
        · refine awc_open (o := 222) (i := r2.1.toNat) (e := (x1, x2)) rfl hxx rfl rfl rfl rfl rfl rfl (fun hnil => ?_) (fun k cc => ?_)
          · simp only at hnil
            subst hnil
            refine awc_dz [0, 1, 2, 3, 4, 5, 6, 7, 8, 9, 10, 11, 12, 13, 14, 15, 16] Try.follows (by kernel_rfl) (by kernel_rfl) rfl ?_
            refine wkz ?_
            refine dz_n rfl (xwnT hx rfl rfl rfl rfl) ?_
            refine wkz ?_
            refine dz_n rfl (olh hxx rfl rfl rfl) ?_
            refine wkz ?_
            refine dz_w rfl (cwx (o := 200) (sl1Below_c hr4) rfl rfl rfl rfl rfl rfl trivial rfl rfl rfl rfl) ?_
            refine wkz ?_
            refine dz_n rfl (apNk (zs := [WR (r4.1 - 1)]) [224] h (by simp) rfl rfl (.w rfl rfl) rfl rfl rfl rfl) ?_
            refine wkz ?_
            refine dz_n rfl (xwnT hx rfl rfl rfl rfl) ?_
            refine wkz ?_
            refine dz_bar (by kernel_rfl) rfl (by kernel_rfl) weak_id (bo_n rfl (o_stx (o := 222) (s := 225) (ys := [WR (r4.1 - 1)]) rfl rfl rfl rfl rfl hxx (.inr ⟨_, _, _, rfl⟩) rfl rfl rfl rfl rfl rfl rfl)) weak_id rfl ?_
            refine wkz ?_
            exact weak_of ⟨rfl, rfl, rfl, rfl, trivial⟩ ⟨rfl, ⟨rfl, rfl⟩, rfl, ⟨rfl, rfl⟩, rfl, ⟨rfl, rfl⟩, rfl, ⟨rfl, rfl⟩, trivial⟩
          · refine awc_dz [0, 1, 2, 3, 4, 5, 6, 7, 8, 9, 10, 11, 12, 13, 14, 15, 16] Try.follows (by kernel_rfl) (by kernel_rfl) rfl ?_
            refine wkz ?_
            refine dz_n rfl (xwnT hx rfl rfl rfl rfl) ?_
            refine wkz ?_
            refine dz_n rfl (olh hxx rfl rfl rfl) ?_
            refine wkz ?_
            refine dz_w rfl (cwx (o := 200) (sl1Below_c hr4) rfl rfl rfl rfl rfl rfl trivial rfl rfl rfl rfl) ?_
            refine wkz ?_
            refine dz_w rfl (apk (q := 224) (xs := x2) (zs := [WR (r4.1 - 1)]) [224, 225] h rfl rfl rfl (.w rfl rfl) rfl rfl rfl rfl rfl rfl) ?_
            refine wkz ?_
            refine dz_n rfl (xwnT hx rfl rfl rfl rfl) ?_
            refine wkz ?_
            refine dz_bark (ds := [224]) (by kernel_rfl) (by kernel_rfl) rfl (by kernel_rfl) weak_id (bo_n rfl (o_stx (o := 222) (s := 226) (ys := x2 ++ [WR (r4.1 - 1)]) rfl rfl rfl rfl rfl hxx (.inr ⟨_, _, _, rfl⟩) rfl rfl rfl rfl rfl rfl rfl)) weak_id rfl ?_
            refine wkz ?_
            exact weak_of ⟨rfl, rfl, rfl, rfl, trivial⟩ ⟨rfl, ⟨rfl, rfl⟩, rfl, ⟨rfl, rfl⟩, rfl, ⟨rfl, rfl⟩, rfl, ⟨rfl, rfl⟩, trivial⟩
        cases H
        refine wkz ?_
        refine weak_trans (weak_frzcx (o := 222) rfl rfl rfl rfl rfl) ?_
        rw [cells_enc]
        refine weak_trans (weak_wnB (o := 222) (n := ((v.set r2.1.toNat (x1, x2 ++ [WR (r4.1 - 1)])).map fun e => (⟨e.1, e.2⟩ : TCell)).length) rfl rfl (by repeat (first | exact trivial | refine ⟨by first | rfl | simp, ?_⟩)) (by repeat (first | exact trivial | refine ⟨by first | rfl | simp, ?_⟩))) ?_
        exact weak_of ⟨rfl, rfl, rfl, rfl, trivial⟩ ⟨rfl, ⟨rfl, rfl⟩, rfl, ⟨rfl, rfl⟩, rfl, ⟨rfl, rfl⟩, rfl, ⟨rfl, rfl⟩, trivial⟩
      · have H := bf h H
        refine awc_weak (weak_frzcx (o := 222) rfl rfl rfl rfl rfl) ?_
        rw [cells_enc]
        refine wkz ?_
        refine awc_cond rfl (fun h => ?_) (fun h => ?_)
        · have H := bt h H
          refine wkz ?_
          obtain ⟨x, hx, H⟩ := ob H
          refine awr_weak (weak_unN 222 rfl (ix_nn (enc := eTCell) hx) rfl rfl) ?_
          refine awr_n rfl (xwT hx (by simp) rfl rfl rfl) ?_
          refine wkz ?_
          refine awr_step rfl (soT (enc := eTCell) (a' := (⟨x.Area, []⟩ : TCell)) hx rfl rfl rfl rfl rfl rfl rfl) ?_
          refine wkz ?_
          cases H
          refine weak_trans (weak_toN 222 rfl rfl rfl) ?_
          refine weak_trans (weak_wnB (o := 222) (n := ((v.map fun e => (⟨e.1, e.2⟩ : TCell)).set r2.1.toNat (⟨x.Area, []⟩ : TCell)).length) rfl rfl (by repeat (first | exact trivial | refine ⟨by first | rfl | simp, ?_⟩)) (by repeat (first | exact trivial | refine ⟨by first | rfl | simp, ?_⟩))) ?_
          exact weak_of ⟨rfl, rfl, rfl, rfl, trivial⟩ ⟨rfl, ⟨rfl, rfl⟩, rfl, ⟨rfl, rfl⟩, rfl, ⟨rfl, rfl⟩, rfl, ⟨rfl, rfl⟩, trivial⟩
        · have H := bf h H
          refine wkz ?_
          refine awc_cond rfl (fun h => ?_) (fun h => ?_)
          · have H := bt h H
            refine wkz ?_
            cases H
            refine weak_trans (weak_nnV (o := 223) (j := 0) 102 2 true rfl rfl rfl rfl rfl) ?_
            refine weak_trans (weak_swp (p := 224) (q := 222) rfl rfl rfl rfl) ?_
            refine weak_trans (weak_wnB (o := 222) (n := (([] : List TCell)).length) rfl rfl (by repeat (first | exact trivial | refine ⟨by first | rfl | simp, ?_⟩)) (by repeat (first | exact trivial | refine ⟨by first | rfl | simp, ?_⟩))) ?_
            exact weak_of ⟨rfl, rfl, rfl, rfl, trivial⟩ ⟨rfl, ⟨rfl, rfl⟩, rfl, ⟨rfl, rfl⟩, rfl, ⟨rfl, rfl⟩, rfl, ⟨rfl, rfl⟩, trivial⟩
          · have H := bf h H
            refine wkz ?_
            cases H
            refine weak_trans (weak_wnB (o := 222) (n := ((v.map fun e => (⟨e.1, e.2⟩ : TCell))).length) rfl rfl (by repeat (first | exact trivial | refine ⟨by first | rfl | simp, ?_⟩)) (by repeat (first | exact trivial | refine ⟨by first | rfl | simp, ?_⟩))) ?_
            exact weak_of ⟨rfl, rfl, rfl, rfl, trivial⟩ ⟨rfl, ⟨rfl, rfl⟩, rfl, ⟨rfl, rfl⟩, rfl, ⟨rfl, rfl⟩, rfl, ⟨rfl, rfl⟩, trivial⟩
  refine wkz ?_
  cases H
  refine clo_v (weak_swp (p := 222) (q := 210) rfl rfl rfl rfl) ?_
  exact fin_retV (.cons (.cell rfl rfl rfl) .nil) rfl (by first | rfl | simp) ⟨rfl, trivial⟩ ⟨rfl, trivial⟩
def sl5Key (a0 : Tl1Cur) : Option (Int × Tl1Cur) :=
  Option.bind (sl1Below a0 6) fun r1 => some (WR (100 + r1.1), r1.2)
theorem sl5Key_c {a0 : Tl1Cur} {r : Int × Tl1Cur} (H : sl5Key a0 = some r) : FnW Tryz.prog 45 (.var 100 [.d false (.l (a0.fb.map eU8)), .d false (.i .i64 a0.fi), .d false (.i .i64 a0.fh)]) [.v (.c (.p 200 0))] (.var 100 [.d false (.l (r.2.fb.map eU8)), .d false (.i .i64 r.2.fi), .d false (.i .i64 r.2.fh)]) [.c (.d (.i .i64 r.1))] := by
  refine fn_inW Tryz.func45 rfl (by kernel_rfl) Tryz.ntmps45 rfl rfl rfl rfl rfl ?_
  refine wk ?_
  obtain ⟨r1, hr1, H⟩ := ob H
  refine awr_step rfl (cw (o := 200) (sl1Below_c hr1) rfl rfl rfl rfl rfl rfl trivial rfl rfl rfl rfl) ?_
  refine wk ?_
  cases H
  exact fin_retW (.cons (.tmp rfl) .nil) rfl rfl rfl rfl (by first | rfl | simp)
def sl32Subscribers_L1  : (Int × List Int × Int × Int × List TSubscriberRecord) → Option (Step (Int × List Int × Int × Int × List TSubscriberRecord) (List Int × Int × Int × List TSubscriberRecord))
  | (v2, v3, v4, v5, v6) => bif ltB 0 v2 then (Option.bind (sl5Key (⟨v3, v4, v5⟩ : Tl1Cur)) fun r13 => Option.bind (sl1Below r13.2 20) fun r14 => bif apOk 32 (v6 ++ [(⟨(⟨1, v2⟩ : TSubscriberID), r13.1, r14.1⟩ : TSubscriberRecord)]).length then (some (.next (WR (v2 - 1), r14.2.fb, r14.2.fi, r14.2.fh, (v6 ++ [(⟨(⟨1, v2⟩ : TSubscriberID), r13.1, r14.1⟩ : TSubscriberRecord)])))) else none) else (some (.done (v3, v4, v5, v6)))
def sl32Subscribers (a0 : Tl1Cur) : Option (List TSubscriberRecord × Tl1Cur) :=
  Option.bind (sl1Below a0 3) fun r1 => Option.bind (iter (sl32Subscribers_L1) FU (WR (1 + r1.1), r1.2.fb, r1.2.fi, r1.2.fh, ([] : List TSubscriberRecord))) fun ((v9, v10, v11, v12) : List Int × Int × Int × List TSubscriberRecord) => some (v12, (⟨v9, v10, v11⟩ : Tl1Cur))
theorem sl32Subscribers_c {a0 : Tl1Cur} {r : List TSubscriberRecord × Tl1Cur} (H : sl32Subscribers a0 = some r) : FnW Tryz.prog 14 (.var 100 [.d false (.l (a0.fb.map eU8)), .d false (.i .i64 a0.fi), .d false (.i .i64 a0.fh)]) [.v (.c (.p 200 0))] (.var 100 [.d false (.l (r.2.fb.map eU8)), .d false (.i .i64 r.2.fi), .d false (.i .i64 r.2.fh)]) [.c (.own 54 4 (r.1.map eTSubscriberRecord) r.1.length)] := by
  refine fn_inW Tryz.func14 rfl (by kernel_rfl) Tryz.ntmps14 rfl rfl rfl rfl rfl ?_
  refine wk ?_
  obtain ⟨r1, hr1, H⟩ := ob H
  refine awr_step rfl (cw (o := 200) (sl1Below_c hr1) rfl rfl rfl rfl rfl rfl trivial rfl rfl rfl rfl) ?_
  refine wk ?_
  obtain ⟨⟨v9, v10, v11, v12⟩, Hj, H⟩ := ob H
  refine awc_jblk ⟨[(3, .v (.c (.w 210 v12.length)))], [(200, .var 100 [.d false (.l (v9.map eU8)), .d false (.i .i64 v10), .d false (.i .i64 v11)]), (210, .row 54 4 (v12.map eTSubscriberRecord) true true)], 211⟩ ?_ ?_
  · refine wk ?_
    refine awc_iter (fun (q : Int × List Int × Int × Int × List TSubscriberRecord) => ⟨[(0, .v (.c (.p 200 0))), (3, .v (.c (.w 210 q.2.2.2.2.length))), (4, tI q.1)], [(200, .var 100 [.d false (.l (q.2.1.map eU8)), .d false (.i .i64 q.2.2.1), .d false (.i .i64 q.2.2.2.1)]), (210, .row 54 4 (q.2.2.2.2.map eTSubscriberRecord) true true)], 211⟩) Hj (weak_of ⟨rfl, rfl, wn rfl (by first | rfl | simp), rfl, rfl, rfl, trivial⟩ ⟨rfl, ⟨rfl, rfl⟩, rfl, ⟨rfl, rfl⟩, trivial⟩) ?_
    rintro ⟨v2, v3, v4, v5, v6⟩ o H
    try dsimp only
    refine wk ?_
    refine awc_cond rfl (fun h => ?_) (fun h => ?_)
    · have H := bt h H
      refine wk ?_
      obtain ⟨r13, hr13, H⟩ := ob H
      refine awr_step rfl (cw (o := 200) (sl5Key_c hr13) rfl rfl rfl rfl rfl rfl trivial rfl rfl rfl rfl) ?_
      refine wk ?_
      obtain ⟨r14, hr14, H⟩ := ob H
      refine awr_step rfl (cw (o := 200) (sl1Below_c hr14) rfl rfl rfl rfl rfl rfl trivial rfl rfl rfl rfl) ?_
      refine wk ?_
      obtain ⟨h, H⟩ := rq H
      refine awr_step rfl (apT (enc := eTSubscriberRecord) (ys := v6) (zs := [(⟨(⟨1, v2⟩ : TSubscriberID), r13.1, r14.1⟩ : TSubscriberRecord)]) h rfl (fun _ => rfl) (by first | rfl | simp) (.w rfl (by first | rfl | exact lm _ | simp)) rfl rfl rfl rfl rfl rfl rfl rfl) ?_
      refine wk ?_
      cases H
      refine iq_n ?_
      exact weak_of ⟨rfl, rfl, wn rfl (by first | rfl | simp), rfl, rfl, rfl, trivial⟩ ⟨rfl, ⟨rfl, rfl⟩, rfl, ⟨rfl, rfl⟩, trivial⟩
    · have H := bf h H
      refine wk ?_
      cases H
      refine iq_e (fun hq => ?_)
      cases hq
      refine wk ?_
      exact weak_of ⟨wn rfl (by first | rfl | simp), rfl, trivial⟩ ⟨rfl, ⟨rfl, rfl⟩, rfl, ⟨rfl, rfl⟩, trivial⟩
  refine wk ?_
  cases H
  exact fin_retW (.cons (.tmp rfl) .nil) rfl rfl (by first | rfl | simp) rfl (by first | rfl | simp)
def sl4Who (a0 : Tl1Cur) : Option (TSubscriberID × Tl1Cur) :=
  Option.bind (sl1Below a0 3) fun r1 => Option.bind (sl1Below r1.2 5) fun r2 => some ((⟨r1.1, r2.1⟩ : TSubscriberID), r2.2)
theorem sl4Who_c {a0 : Tl1Cur} {r : TSubscriberID × Tl1Cur} (H : sl4Who a0 = some r) : FnW Tryz.prog 76 (.var 100 [.d false (.l (a0.fb.map eU8)), .d false (.i .i64 a0.fi), .d false (.i .i64 a0.fh)]) [.v (.c (.p 200 0))] (.var 100 [.d false (.l (r.2.fb.map eU8)), .d false (.i .i64 r.2.fi), .d false (.i .i64 r.2.fh)]) [.agg [.d (.i .i64 r.1.Network), .d (.i .i64 r.1.Number)]] := by
  refine fn_inW Tryz.func76 rfl (by kernel_rfl) Tryz.ntmps76 rfl rfl rfl rfl rfl ?_
  refine wk ?_
  obtain ⟨r1, hr1, H⟩ := ob H
  refine awr_step rfl (cw (o := 200) (sl1Below_c hr1) rfl rfl rfl rfl rfl rfl trivial rfl rfl rfl rfl) ?_
  refine wk ?_
  obtain ⟨r2, hr2, H⟩ := ob H
  refine awr_step rfl (cw (o := 200) (sl1Below_c hr2) rfl rfl rfl rfl rfl rfl trivial rfl rfl rfl rfl) ?_
  refine wk ?_
  cases H
  exact fin_retW (.cons (.cell rfl rfl rfl) .nil) rfl rfl rfl rfl (by first | rfl | simp)
def sl6Card (a0 : Tl1Cur) : Option (TUSIM × Tl1Cur) :=
  Option.bind (sl4Who a0) fun r1 => Option.bind (sl5Key r1.2) fun r2 => Option.bind (sl1Below r2.2 40) fun r3 => some ((⟨r1.1, r2.1, r3.1⟩ : TUSIM), r3.2)
theorem sl6Card_c {a0 : Tl1Cur} {r : TUSIM × Tl1Cur} (H : sl6Card a0 = some r) : FnW Tryz.prog 75 (.var 100 [.d false (.l (a0.fb.map eU8)), .d false (.i .i64 a0.fi), .d false (.i .i64 a0.fh)]) [.v (.c (.p 200 0))] (.var 100 [.d false (.l (r.2.fb.map eU8)), .d false (.i .i64 r.2.fi), .d false (.i .i64 r.2.fh)]) [.agg [.d (.i .i64 r.1.ID.Network), .d (.i .i64 r.1.ID.Number), .d (.i .i64 r.1.Key), .d (.i .i64 r.1.LastSeq)]] := by
  refine fn_inW Tryz.func75 rfl (by kernel_rfl) Tryz.ntmps75 rfl rfl rfl rfl rfl ?_
  refine wk ?_
  obtain ⟨r1, hr1, H⟩ := ob H
  refine awr_step rfl (cw (o := 200) (sl4Who_c hr1) rfl rfl rfl rfl rfl rfl trivial rfl rfl rfl rfl) ?_
  refine wk ?_
  obtain ⟨r2, hr2, H⟩ := ob H
  refine awr_step rfl (cw (o := 200) (sl5Key_c hr2) rfl rfl rfl rfl rfl rfl trivial rfl rfl rfl rfl) ?_
  refine wk ?_
  obtain ⟨r3, hr3, H⟩ := ob H
  refine awr_step rfl (cw (o := 200) (sl1Below_c hr3) rfl rfl rfl rfl rfl rfl trivial rfl rfl rfl rfl) ?_
  refine wk ?_
  cases H
  exact fin_retW (.cons (.cell rfl rfl rfl) .nil) rfl rfl rfl rfl (by first | rfl | simp)
def sl6Pair (a0 : Tl1Cur) : Option (TUSIM × TSubscriberRecord × Tl1Cur) :=
  Option.bind (sl6Card a0) fun r1 => Option.bind (sl1Below r1.2 4) fun r2 => Option.bind (sl1Below r2.2 8) fun r3 => Option.bind (bif eqB r3.1 0 then (Option.bind (sl1Int r3.2 [0, WR (r1.1.LastSeq + 1500), 999998]) fun r9 => some (r9.2.fb, r9.2.fi, r9.2.fh, r9.1, r1.1.LastSeq)) else (Option.bind (bif eqB r3.1 1 then (Option.bind (sl1Int r3.2 [0, 5000, 999990]) fun r14 => some (r14.2.fb, r14.2.fi, r14.2.fh, r14.1)) else (some (r3.2.fb, r3.2.fi, r3.2.fh, r1.1.LastSeq))) fun ((v10, v11, v12, v13) : List Int × Int × Int × Int) => some (v10, v11, v12, WR (r1.1.LastSeq + r2.1), v13))) fun ((v4, v5, v6, v7, v8) : List Int × Int × Int × Int × Int) => some ((⟨r1.1.ID, r1.1.Key, v8⟩ : TUSIM), (⟨r1.1.ID, r1.1.Key, v7⟩ : TSubscriberRecord), (⟨v4, v5, v6⟩ : Tl1Cur))
theorem sl6Pair_c {a0 : Tl1Cur} {r : TUSIM × TSubscriberRecord × Tl1Cur} (H : sl6Pair a0 = some r) : FnW Tryz.prog 47 (.var 100 [.d false (.l (a0.fb.map eU8)), .d false (.i .i64 a0.fi), .d false (.i .i64 a0.fh)]) [.v (.c (.p 200 0))] (.var 100 [.d false (.l (r.2.2.fb.map eU8)), .d false (.i .i64 r.2.2.fi), .d false (.i .i64 r.2.2.fh)]) [.agg [.d (.i .i64 r.1.ID.Network), .d (.i .i64 r.1.ID.Number), .d (.i .i64 r.1.Key), .d (.i .i64 r.1.LastSeq)], .agg [.d (.i .i64 r.2.1.ID.Network), .d (.i .i64 r.2.1.ID.Number), .d (.i .i64 r.2.1.Key), .d (.i .i64 r.2.1.Seq)]] := by
  refine fn_inW Tryz.func47 rfl (by kernel_rfl) Tryz.ntmps47 rfl rfl rfl rfl rfl ?_
  refine wkz ?_
  obtain ⟨r1, hr1, H⟩ := ob H
  refine awr_step rfl (cw (o := 200) (sl6Card_c hr1) rfl rfl rfl rfl rfl rfl trivial rfl rfl rfl rfl) ?_
  refine wkz ?_
  refine awc_dz [0, 1, 2, 3, 4, 5, 6, 7, 8, 9, 10, 11] Try.follows (by kernel_rfl) (by kernel_rfl) rfl ?_
  refine wkz ?_
  obtain ⟨r2, hr2, H⟩ := ob H
  refine dz_w rfl (cwx (o := 200) (sl1Below_c hr2) rfl rfl rfl rfl rfl rfl trivial rfl rfl rfl rfl) ?_
  refine wkz ?_
  refine dz_w rfl (spx 100006 rfl rfl rfl rfl rfl rfl rfl rfl) ?_
  refine wkz ?_
  obtain ⟨r3, hr3, H⟩ := ob H
  refine awr_step rfl (cw (o := 200) (sl1Below_c hr3) rfl rfl rfl rfl rfl rfl trivial rfl rfl rfl rfl) ?_
  refine wkz ?_
  obtain ⟨⟨v4, v5, v6, v7, v8⟩, Hj, H⟩ := ob H
  refine awc_join ⟨[(2, .v (.c (.p 210 0))), (3, .v (.c (.p 211 0))), (4, .v (.c (.p 212 0))), (5, .v (.c (.p 213 0)))], [(200, .var 100 [.d false (.l (v4.map eU8)), .d false (.i .i64 v5), .d false (.i .i64 v6)]), (210, .var 46 [.d false (.i .i64 0), .d false (.i .i64 0), .d false (.i .i64 0), .d false (.i .i64 0)]), (211, .var 54 [.d false (.i .i64 0), .d false (.i .i64 0), .d false (.i .i64 0), .d false (.i .i64 0)]), (212, .var 46 [.d false (.i .i64 r1.1.ID.Network), .d false (.i .i64 r1.1.ID.Number), .d false (.i .i64 r1.1.Key), .d false (.i .i64 v8)]), (213, .var 54 [.d false (.i .i64 r1.1.ID.Network), .d false (.i .i64 r1.1.ID.Number), .d false (.i .i64 r1.1.Key), .d false (.i .i64 v7)])], 214⟩ ?_ ?_
  · have H := Hj
    refine wkz ?_
    refine awc_cond rfl (fun h => ?_) (fun h => ?_)
    · have H := bt h H
      refine wkz ?_
      obtain ⟨r9, hr9, H⟩ := ob H
      refine awr_weak (weak_frz (o := 214) rfl rfl) ?_
      refine awr_weak (weak_cast (k := 26) rfl rfl ⟨by first | rfl | simp, trivial⟩) ?_
      refine awr_step rfl (cw (o := 200) (sl1Int_c hr9) rfl rfl rfl rfl rfl rfl trivial rfl rfl rfl rfl) ?_
      refine wkz ?_
      cases H
      exact weak_of ⟨rfl, rfl, rfl, rfl, rfl, rfl, rfl, rfl, trivial⟩ ⟨rfl, ⟨rfl, rfl⟩, rfl, ⟨rfl, rfl⟩, rfl, ⟨rfl, rfl⟩, rfl, ⟨rfl, rfl⟩, rfl, ⟨rfl, rfl⟩, trivial⟩
    · have H := bf h H
      refine wkz ?_
      obtain ⟨⟨v10, v11, v12, v13⟩, Hj, H⟩ := ob H
      refine awc_join ⟨[(2, .v (.c (.p 210 0))), (3, .v (.c (.p 211 0))), (4, .v (.c (.p 212 0))), (5, .v (.c (.p 213 0)))], [(200, .var 100 [.d false (.l (v10.map eU8)), .d false (.i .i64 v11), .d false (.i .i64 v12)]), (210, .var 46 [.d false (.i .i64 0), .d false (.i .i64 0), .d false (.i .i64 0), .d false (.i .i64 0)]), (211, .var 54 [.d false (.i .i64 0), .d false (.i .i64 0), .d false (.i .i64 0), .d false (.i .i64 0)]), (212, .var 46 [.d false (.i .i64 r1.1.ID.Network), .d false (.i .i64 r1.1.ID.Number), .d false (.i .i64 r1.1.Key), .d false (.i .i64 v13)]), (213, .var 54 [.d false (.i .i64 r1.1.ID.Network), .d false (.i .i64 r1.1.ID.Number), .d false (.i .i64 r1.1.Key), .d false (.i .i64 (WR (r1.1.LastSeq + r2.1)))])], 214⟩ ?_ ?_
      · have H := Hj
        refine wkz ?_
        refine awc_cond rfl (fun h => ?_) (fun h => ?_)
        · have H := bt h H
          refine wkz ?_
          obtain ⟨r14, hr14, H⟩ := ob H
          refine awr_weak (weak_frz (o := 214) rfl rfl) ?_
          refine awr_weak (weak_cast (k := 32) rfl rfl ⟨by first | rfl | simp, trivial⟩) ?_
          refine awr_step rfl (cw (o := 200) (sl1Int_c hr14) rfl rfl rfl rfl rfl rfl trivial rfl rfl rfl rfl) ?_
          refine wkz ?_
          cases H
          exact weak_of ⟨rfl, rfl, rfl, rfl, rfl, rfl, rfl, rfl, trivial⟩ ⟨rfl, ⟨rfl, rfl⟩, rfl, ⟨rfl, rfl⟩, rfl, ⟨rfl, rfl⟩, rfl, ⟨rfl, rfl⟩, rfl, ⟨rfl, rfl⟩, trivial⟩
        · have H := bf h H
          refine wkz ?_
          cases H
          exact weak_of ⟨rfl, rfl, rfl, rfl, rfl, rfl, rfl, rfl, trivial⟩ ⟨rfl, ⟨rfl, rfl⟩, rfl, ⟨rfl, rfl⟩, rfl, ⟨rfl, rfl⟩, rfl, ⟨rfl, rfl⟩, rfl, ⟨rfl, rfl⟩, trivial⟩
      refine wkz ?_
      cases H
      exact weak_of ⟨rfl, rfl, rfl, rfl, rfl, rfl, rfl, rfl, trivial⟩ ⟨rfl, ⟨rfl, rfl⟩, rfl, ⟨rfl, rfl⟩, rfl, ⟨rfl, rfl⟩, rfl, ⟨rfl, rfl⟩, rfl, ⟨rfl, rfl⟩, trivial⟩
  refine wkz ?_
  refine awc_dz [0, 1, 2, 3] Try.follows (by kernel_rfl) (by kernel_rfl) rfl ?_
  refine wkz ?_
  refine dz_w rfl (spx 100005 rfl rfl rfl rfl rfl rfl rfl rfl) ?_
  refine wkz ?_
  refine dz_w rfl (spx 100004 rfl rfl rfl rfl rfl rfl rfl rfl) ?_
  refine wkz ?_
  cases H
  exact fin_retW (.cons (.cell rfl rfl rfl) (.cons (.cell rfl rfl rfl) .nil)) rfl rfl rfl rfl (by first | rfl | simp)
def sl4Any (a0 : Tl1Cur) : Option (TSubscriberID × Tl1Cur) :=
  Option.bind (sl4Who a0) fun r1 => Option.bind (sl1Below r1.2 8) fun r2 => Option.bind (bif eqB r2.1 0 then (Option.bind (sl1Int r2.2 [-1, 3, 4]) fun r8 => some (r8.2.fb, r8.2.fi, r8.2.fh, r8.1, r1.1.Number)) else (Option.bind (bif eqB r2.1 1 then (Option.bind (sl1Int r2.2 [-1, 99, 100]) fun r13 => some (r13.2.fb, r13.2.fi, r13.2.fh, r13.1)) else (some (r2.2.fb, r2.2.fi, r2.2.fh, r1.1.Number))) fun ((v9, v10, v11, v12) : List Int × Int × Int × Int) => some (v9, v10, v11, r1.1.Network, v12))) fun ((v3, v4, v5, v6, v7) : List Int × Int × Int × Int × Int) => some ((⟨v6, v7⟩ : TSubscriberID), (⟨v3, v4, v5⟩ : Tl1Cur))
theorem sl4Any_c {a0 : Tl1Cur} {r : TSubscriberID × Tl1Cur} (H : sl4Any a0 = some r) : FnW Tryz.prog 48 (.var 100 [.d false (.l (a0.fb.map eU8)), .d false (.i .i64 a0.fi), .d false (.i .i64 a0.fh)]) [.v (.c (.p 200 0))] (.var 100 [.d false (.l (r.2.fb.map eU8)), .d false (.i .i64 r.2.fi), .d false (.i .i64 r.2.fh)]) [.agg [.d (.i .i64 r.1.Network), .d (.i .i64 r.1.Number)]] := by
  refine fn_inW Tryz.func48 rfl (by kernel_rfl) Tryz.ntmps48 rfl rfl rfl rfl rfl ?_
  refine wk ?_
  obtain ⟨r1, hr1, H⟩ := ob H
  refine awr_step rfl (cw (o := 200) (sl4Who_c hr1) rfl rfl rfl rfl rfl rfl trivial rfl rfl rfl rfl) ?_
  refine wk ?_
  obtain ⟨r2, hr2, H⟩ := ob H
  refine awr_step rfl (cw (o := 200) (sl1Below_c hr2) rfl rfl rfl rfl rfl rfl trivial rfl rfl rfl rfl) ?_
  refine wk ?_
  obtain ⟨⟨v3, v4, v5, v6, v7⟩, Hj, H⟩ := ob H
  refine awc_join ⟨[(2, .v (.c (.p 210 0))), (3, .v (.c (.p 211 0)))], [(200, .var 100 [.d false (.l (v3.map eU8)), .d false (.i .i64 v4), .d false (.i .i64 v5)]), (210, .var 44 [.d false (.i .i64 0), .d false (.i .i64 0)]), (211, .var 44 [.d false (.i .i64 v6), .d false (.i .i64 v7)])], 212⟩ ?_ ?_
  · have H := Hj
    refine wk ?_
    refine awc_cond rfl (fun h => ?_) (fun h => ?_)
    · have H := bt h H
      refine wk ?_
      obtain ⟨r8, hr8, H⟩ := ob H
      refine awr_weak (weak_frz (o := 212) rfl rfl) ?_
      refine awr_weak (weak_cast (k := 11) rfl rfl ⟨by first | rfl | simp, trivial⟩) ?_
      refine awr_step rfl (cw (o := 200) (sl1Int_c hr8) rfl rfl rfl rfl rfl rfl trivial rfl rfl rfl rfl) ?_
      refine wk ?_
      cases H
      exact weak_of ⟨rfl, rfl, rfl, rfl, trivial⟩ ⟨rfl, ⟨rfl, rfl⟩, rfl, ⟨rfl, rfl⟩, rfl, ⟨rfl, rfl⟩, trivial⟩
    · have H := bf h H
      refine wk ?_
      obtain ⟨⟨v9, v10, v11, v12⟩, Hj, H⟩ := ob H
      refine awc_join ⟨[(2, .v (.c (.p 210 0))), (3, .v (.c (.p 211 0)))], [(200, .var 100 [.d false (.l (v9.map eU8)), .d false (.i .i64 v10), .d false (.i .i64 v11)]), (210, .var 44 [.d false (.i .i64 0), .d false (.i .i64 0)]), (211, .var 44 [.d false (.i .i64 r1.1.Network), .d false (.i .i64 v12)])], 212⟩ ?_ ?_
      · have H := Hj
        refine wk ?_
        refine awc_cond rfl (fun h => ?_) (fun h => ?_)
        · have H := bt h H
          refine wk ?_
          obtain ⟨r13, hr13, H⟩ := ob H
          refine awr_weak (weak_frz (o := 212) rfl rfl) ?_
          refine awr_weak (weak_cast (k := 17) rfl rfl ⟨by first | rfl | simp, trivial⟩) ?_
          refine awr_step rfl (cw (o := 200) (sl1Int_c hr13) rfl rfl rfl rfl rfl rfl trivial rfl rfl rfl rfl) ?_
          refine wk ?_
          cases H
          exact weak_of ⟨rfl, rfl, rfl, rfl, trivial⟩ ⟨rfl, ⟨rfl, rfl⟩, rfl, ⟨rfl, rfl⟩, rfl, ⟨rfl, rfl⟩, trivial⟩
        · have H := bf h H
          refine wk ?_
          cases H
          exact weak_of ⟨rfl, rfl, rfl, rfl, trivial⟩ ⟨rfl, ⟨rfl, rfl⟩, rfl, ⟨rfl, rfl⟩, rfl, ⟨rfl, rfl⟩, trivial⟩
      refine wk ?_
      cases H
      exact weak_of ⟨rfl, rfl, rfl, rfl, trivial⟩ ⟨rfl, ⟨rfl, rfl⟩, rfl, ⟨rfl, rfl⟩, rfl, ⟨rfl, rfl⟩, trivial⟩
  refine wk ?_
  cases H
  exact fin_retW (.cons (.cell rfl rfl rfl) .nil) rfl rfl rfl rfl (by first | rfl | simp)
def sl6Any (a0 : Tl1Cur) : Option (TUSIM × TSubscriberRecord × Tl1Cur) :=
  Option.bind (sl6Pair a0) fun r1 => Option.bind (sl1Below r1.2.2 12) fun r2 => Option.bind (bif eqB r2.1 0 then (Option.bind (sl1Int r2.2 [0, 100, 2147483647]) fun r12 => some (r12.2.fb, r12.2.fi, r12.2.fh, r1.2.1.Key, r1.2.1.Seq, r1.1.ID.Network, r1.1.ID.Number, r12.1, r1.1.LastSeq)) else (Option.bind (bif eqB r2.1 1 then (Option.bind (sl1Int r2.2 [0, 100]) fun r21 => some (r21.2.fb, r21.2.fi, r21.2.fh, r21.1, r1.2.1.Seq, r1.1.ID.Network, r1.1.ID.Number, r1.1.LastSeq)) else (Option.bind (bif eqB r2.1 2 then (Option.bind (sl1Int r2.2 [-1, 999999, 1000000]) fun r29 => some (r29.2.fb, r29.2.fi, r29.2.fh, r29.1, r1.1.ID.Network, r1.1.ID.Number, r1.1.LastSeq)) else (Option.bind (bif eqB r2.1 3 then (Option.bind (sl1Int r2.2 [-1, 999999, 1000000]) fun r36 => some (r36.2.fb, r36.2.fi, r36.2.fh, r1.1.ID.Network, r1.1.ID.Number, r36.1)) else (Option.bind (bif eqB r2.1 4 then (Option.bind (sl4Any r2.2) fun r42 => some (r42.2.fb, r42.2.fi, r42.2.fh, r42.1.Network, r42.1.Number)) else (some (r2.2.fb, r2.2.fi, r2.2.fh, r1.1.ID.Network, r1.1.ID.Number))) fun ((v37, v38, v39, v40, v41) : List Int × Int × Int × Int × Int) => some (v37, v38, v39, v40, v41, r1.1.LastSeq))) fun ((v30, v31, v32, v33, v34, v35) : List Int × Int × Int × Int × Int × Int) => some (v30, v31, v32, r1.2.1.Seq, v33, v34, v35))) fun ((v22, v23, v24, v25, v26, v27, v28) : List Int × Int × Int × Int × Int × Int × Int) => some (v22, v23, v24, r1.2.1.Key, v25, v26, v27, v28))) fun ((v13, v14, v15, v16, v17, v18, v19, v20) : List Int × Int × Int × Int × Int × Int × Int × Int) => some (v13, v14, v15, v16, v17, v18, v19, r1.1.Key, v20))) fun ((v3, v4, v5, v6, v7, v8, v9, v10, v11) : List Int × Int × Int × Int × Int × Int × Int × Int × Int) => some ((⟨(⟨v8, v9⟩ : TSubscriberID), v10, v11⟩ : TUSIM), (⟨r1.2.1.ID, v6, v7⟩ : TSubscriberRecord), (⟨v3, v4, v5⟩ : Tl1Cur))
theorem sl6Any_c {a0 : Tl1Cur} {r : TUSIM × TSubscriberRecord × Tl1Cur} (H : sl6Any a0 = some r) : FnW Tryz.prog 16 (.var 100 [.d false (.l (a0.fb.map eU8)), .d false (.i .i64 a0.fi), .d false (.i .i64 a0.fh)]) [.v (.c (.p 200 0))] (.var 100 [.d false (.l (r.2.2.fb.map eU8)), .d false (.i .i64 r.2.2.fi), .d false (.i .i64 r.2.2.fh)]) [.agg [.d (.i .i64 r.1.ID.Network), .d (.i .i64 r.1.ID.Number), .d (.i .i64 r.1.Key), .d (.i .i64 r.1.LastSeq)], .agg [.d (.i .i64 r.2.1.ID.Network), .d (.i .i64 r.2.1.ID.Number), .d (.i .i64 r.2.1.Key), .d (.i .i64 r.2.1.Seq)]] := by
  refine fn_inW Tryz.func16 rfl (by kernel_rfl) Tryz.ntmps16 rfl rfl rfl rfl rfl ?_
  refine wkz ?_
  obtain ⟨r1, hr1, H⟩ := ob H
  refine awr_step rfl (cw (o := 200) (sl6Pair_c hr1) rfl rfl rfl rfl rfl rfl trivial rfl rfl rfl rfl) ?_
  refine wkz ?_
  obtain ⟨r2, hr2, H⟩ := ob H
  refine awr_step rfl (cw (o := 200) (sl1Below_c hr2) rfl rfl rfl rfl rfl rfl trivial rfl rfl rfl rfl) ?_
  refine wkz ?_
  obtain ⟨⟨v3, v4, v5, v6, v7, v8, v9, v10, v11⟩, Hj, H⟩ := ob H
  refine awc_join ⟨[(2, .v (.c (.p 210 0))), (3, .v (.c (.p 211 0))), (4, .v (.c (.p 212 0))), (5, .v (.c (.p 213 0)))], [(200, .var 100 [.d false (.l (v3.map eU8)), .d false (.i .i64 v4), .d false (.i .i64 v5)]), (210, .var 46 [.d false (.i .i64 0), .d false (.i .i64 0), .d false (.i .i64 0), .d false (.i .i64 0)]), (211, .var 54 [.d false (.i .i64 0), .d false (.i .i64 0), .d false (.i .i64 0), .d false (.i .i64 0)]), (212, .var 46 [.d false (.i .i64 v8), .d false (.i .i64 v9), .d false (.i .i64 v10), .d false (.i .i64 v11)]), (213, .var 54 [.d false (.i .i64 r1.2.1.ID.Network), .d false (.i .i64 r1.2.1.ID.Number), .d false (.i .i64 v6), .d false (.i .i64 v7)])], 214⟩ ?_ ?_
  · have H := Hj
    refine wkz ?_
    refine awc_cond rfl (fun h => ?_) (fun h => ?_)
    · have H := bt h H
      refine wkz ?_
      obtain ⟨r12, hr12, H⟩ := ob H
      refine awr_weak (weak_frz (o := 214) rfl rfl) ?_
      refine awr_weak (weak_cast (k := 16) rfl rfl ⟨by first | rfl | simp, trivial⟩) ?_
      refine awr_step rfl (cw (o := 200) (sl1Int_c hr12) rfl rfl rfl rfl rfl rfl trivial rfl rfl rfl rfl) ?_
      refine wkz ?_
      cases H
      exact weak_of ⟨rfl, rfl, rfl, rfl, rfl, rfl, rfl, rfl, trivial⟩ ⟨rfl, ⟨rfl, rfl⟩, rfl, ⟨rfl, rfl⟩, rfl, ⟨rfl, rfl⟩, rfl, ⟨rfl, rfl⟩, rfl, ⟨rfl, rfl⟩, trivial⟩
    · have H := bf h H
      refine wkz ?_
      obtain ⟨⟨v13, v14, v15, v16, v17, v18, v19, v20⟩, Hj, H⟩ := ob H
      refine awc_join ⟨[(2, .v (.c (.p 210 0))), (3, .v (.c (.p 211 0))), (4, .v (.c (.p 212 0))), (5, .v (.c (.p 213 0)))], [(200, .var 100 [.d false (.l (v13.map eU8)), .d false (.i .i64 v14), .d false (.i .i64 v15)]), (210, .var 46 [.d false (.i .i64 0), .d false (.i .i64 0), .d false (.i .i64 0), .d false (.i .i64 0)]), (211, .var 54 [.d false (.i .i64 0), .d false (.i .i64 0), .d false (.i .i64 0), .d false (.i .i64 0)]), (212, .var 46 [.d false (.i .i64 v18), .d false (.i .i64 v19), .d false (.i .i64 r1.1.Key), .d false (.i .i64 v20)]), (213, .var 54 [.d false (.i .i64 r1.2.1.ID.Network), .d false (.i .i64 r1.2.1.ID.Number), .d false (.i .i64 v16), .d false (.i .i64 v17)])], 214⟩ ?_ ?_
      · have H := Hj
        refine wkz ?_
        refine awc_cond rfl (fun h => ?_) (fun h => ?_)
        · have H := bt h H
          refine wkz ?_
          obtain ⟨r21, hr21, H⟩ := ob H
          refine awr_weak (weak_frz (o := 214) rfl rfl) ?_
          refine awr_weak (weak_cast (k := 22) rfl rfl ⟨by first | rfl | simp, trivial⟩) ?_
          refine awr_step rfl (cw (o := 200) (sl1Int_c hr21) rfl rfl rfl rfl rfl rfl trivial rfl rfl rfl rfl) ?_
          refine wkz ?_
          cases H
          exact weak_of ⟨rfl, rfl, rfl, rfl, rfl, rfl, rfl, rfl, trivial⟩ ⟨rfl, ⟨rfl, rfl⟩, rfl, ⟨rfl, rfl⟩, rfl, ⟨rfl, rfl⟩, rfl, ⟨rfl, rfl⟩, rfl, ⟨rfl, rfl⟩, trivial⟩
        · have H := bf h H
          refine wkz ?_
          obtain ⟨⟨v22, v23, v24, v25, v26, v27, v28⟩, Hj, H⟩ := ob H
          refine awc_join ⟨[(2, .v (.c (.p 210 0))), (3, .v (.c (.p 211 0))), (4, .v (.c (.p 212 0))), (5, .v (.c (.p 213 0)))], [(200, .var 100 [.d false (.l (v22.map eU8)), .d false (.i .i64 v23), .d false (.i .i64 v24)]), (210, .var 46 [.d false (.i .i64 0), .d false (.i .i64 0), .d false (.i .i64 0), .d false (.i .i64 0)]), (211, .var 54 [.d false (.i .i64 0), .d false (.i .i64 0), .d false (.i .i64 0), .d false (.i .i64 0)]), (212, .var 46 [.d false (.i .i64 v26), .d false (.i .i64 v27), .d false (.i .i64 r1.1.Key), .d false (.i .i64 v28)]), (213, .var 54 [.d false (.i .i64 r1.2.1.ID.Network), .d false (.i .i64 r1.2.1.ID.Number), .d false (.i .i64 r1.2.1.Key), .d false (.i .i64 v25)])], 214⟩ ?_ ?_
          · have H := Hj
            refine wkz ?_
            refine awc_cond rfl (fun h => ?_) (fun h => ?_)
            · have H := bt h H
              refine wkz ?_
              obtain ⟨r29, hr29, H⟩ := ob H
              refine awr_weak (weak_frz (o := 214) rfl rfl) ?_
              refine awr_weak (weak_cast (k := 28) rfl rfl ⟨by first | rfl | simp, trivial⟩) ?_
              refine awr_step rfl (cw (o := 200) (sl1Int_c hr29) rfl rfl rfl rfl rfl rfl trivial rfl rfl rfl rfl) ?_
              refine wkz ?_
              cases H
              exact weak_of ⟨rfl, rfl, rfl, rfl, rfl, rfl, rfl, rfl, trivial⟩ ⟨rfl, ⟨rfl, rfl⟩, rfl, ⟨rfl, rfl⟩, rfl, ⟨rfl, rfl⟩, rfl, ⟨rfl, rfl⟩, rfl, ⟨rfl, rfl⟩, trivial⟩
            · have H := bf h H
              refine wkz ?_
              obtain ⟨⟨v30, v31, v32, v33, v34, v35⟩, Hj, H⟩ := ob H
              refine awc_join ⟨[(2, .v (.c (.p 210 0))), (3, .v (.c (.p 211 0))), (4, .v (.c (.p 212 0))), (5, .v (.c (.p 213 0)))], [(200, .var 100 [.d false (.l (v30.map eU8)), .d false (.i .i64 v31), .d false (.i .i64 v32)]), (210, .var 46 [.d false (.i .i64 0), .d false (.i .i64 0), .d false (.i .i64 0), .d false (.i .i64 0)]), (211, .var 54 [.d false (.i .i64 0), .d false (.i .i64 0), .d false (.i .i64 0), .d false (.i .i64 0)]), (212, .var 46 [.d false (.i .i64 v33), .d false (.i .i64 v34), .d false (.i .i64 r1.1.Key), .d false (.i .i64 v35)]), (213, .var 54 [.d false (.i .i64 r1.2.1.ID.Network), .d false (.i .i64 r1.2.1.ID.Number), .d false (.i .i64 r1.2.1.Key), .d false (.i .i64 r1.2.1.Seq)])], 214⟩ ?_ ?_
              · have H := Hj
                refine wkz ?_
                refine awc_cond rfl (fun h => ?_) (fun h => ?_)
                · have H := bt h H
                  refine wkz ?_
                  obtain ⟨r36, hr36, H⟩ := ob H
                  refine awr_weak (weak_frz (o := 214) rfl rfl) ?_
                  refine awr_weak (weak_cast (k := 34) rfl rfl ⟨by first | rfl | simp, trivial⟩) ?_
                  refine awr_step rfl (cw (o := 200) (sl1Int_c hr36) rfl rfl rfl rfl rfl rfl trivial rfl rfl rfl rfl) ?_
                  refine wkz ?_
                  cases H
                  exact weak_of ⟨rfl, rfl, rfl, rfl, rfl, rfl, rfl, rfl, trivial⟩ ⟨rfl, ⟨rfl, rfl⟩, rfl, ⟨rfl, rfl⟩, rfl, ⟨rfl, rfl⟩, rfl, ⟨rfl, rfl⟩, rfl, ⟨rfl, rfl⟩, trivial⟩
                · have H := bf h H
                  refine wkz ?_
                  obtain ⟨⟨v37, v38, v39, v40, v41⟩, Hj, H⟩ := ob H
                  refine awc_join ⟨[(2, .v (.c (.p 210 0))), (3, .v (.c (.p 211 0))), (4, .v (.c (.p 212 0))), (5, .v (.c (.p 213 0)))], [(200, .var 100 [.d false (.l (v37.map eU8)), .d false (.i .i64 v38), .d false (.i .i64 v39)]), (210, .var 46 [.d false (.i .i64 0), .d false (.i .i64 0), .d false (.i .i64 0), .d false (.i .i64 0)]), (211, .var 54 [.d false (.i .i64 0), .d false (.i .i64 0), .d false (.i .i64 0), .d false (.i .i64 0)]), (212, .var 46 [.d false (.i .i64 v40), .d false (.i .i64 v41), .d false (.i .i64 r1.1.Key), .d false (.i .i64 r1.1.LastSeq)]), (213, .var 54 [.d false (.i .i64 r1.2.1.ID.Network), .d false (.i .i64 r1.2.1.ID.Number), .d false (.i .i64 r1.2.1.Key), .d false (.i .i64 r1.2.1.Seq)])], 214⟩ ?_ ?_
                  · have H := Hj
                    refine wkz ?_
                    refine awc_cond rfl (fun h => ?_) (fun h => ?_)
                    · have H := bt h H
                      refine wkz ?_
                      obtain ⟨r42, hr42, H⟩ := ob H
                      refine awr_step rfl (cw (o := 200) (sl4Any_c hr42) rfl rfl rfl rfl rfl rfl trivial rfl rfl rfl rfl) ?_
                      refine wkz ?_
                      cases H
                      exact weak_of ⟨rfl, rfl, rfl, rfl, rfl, rfl, rfl, rfl, trivial⟩ ⟨rfl, ⟨rfl, rfl⟩, rfl, ⟨rfl, rfl⟩, rfl, ⟨rfl, rfl⟩, rfl, ⟨rfl, rfl⟩, rfl, ⟨rfl, rfl⟩, trivial⟩
                    · have H := bf h H
                      refine wkz ?_
                      cases H
                      exact weak_of ⟨rfl, rfl, rfl, rfl, rfl, rfl, rfl, rfl, trivial⟩ ⟨rfl, ⟨rfl, rfl⟩, rfl, ⟨rfl, rfl⟩, rfl, ⟨rfl, rfl⟩, rfl, ⟨rfl, rfl⟩, rfl, ⟨rfl, rfl⟩, trivial⟩
                  refine wkz ?_
                  cases H
                  exact weak_of ⟨rfl, rfl, rfl, rfl, rfl, rfl, rfl, rfl, trivial⟩ ⟨rfl, ⟨rfl, rfl⟩, rfl, ⟨rfl, rfl⟩, rfl, ⟨rfl, rfl⟩, rfl, ⟨rfl, rfl⟩, rfl, ⟨rfl, rfl⟩, trivial⟩
              refine wkz ?_
              cases H
              exact weak_of ⟨rfl, rfl, rfl, rfl, rfl, rfl, rfl, rfl, trivial⟩ ⟨rfl, ⟨rfl, rfl⟩, rfl, ⟨rfl, rfl⟩, rfl, ⟨rfl, rfl⟩, rfl, ⟨rfl, rfl⟩, rfl, ⟨rfl, rfl⟩, trivial⟩
          refine wkz ?_
          cases H
          exact weak_of ⟨rfl, rfl, rfl, rfl, rfl, rfl, rfl, rfl, trivial⟩ ⟨rfl, ⟨rfl, rfl⟩, rfl, ⟨rfl, rfl⟩, rfl, ⟨rfl, rfl⟩, rfl, ⟨rfl, rfl⟩, rfl, ⟨rfl, rfl⟩, trivial⟩
      refine wkz ?_
      cases H
      exact weak_of ⟨rfl, rfl, rfl, rfl, rfl, rfl, rfl, rfl, trivial⟩ ⟨rfl, ⟨rfl, rfl⟩, rfl, ⟨rfl, rfl⟩, rfl, ⟨rfl, rfl⟩, rfl, ⟨rfl, rfl⟩, rfl, ⟨rfl, rfl⟩, trivial⟩
  refine wkz ?_
  refine awc_dz [0, 1, 2, 3] Try.follows (by kernel_rfl) (by kernel_rfl) rfl ?_
  refine wkz ?_
  refine dz_w rfl (spx 100010 rfl rfl rfl rfl rfl rfl rfl rfl) ?_
  refine wkz ?_
  refine dz_w rfl (spx 100009 rfl rfl rfl rfl rfl rfl rfl rfl) ?_
  refine wkz ?_
  cases H
  exact fin_retW (.cons (.cell rfl rfl rfl) (.cons (.cell rfl rfl rfl) .nil)) rfl rfl rfl rfl (by first | rfl | simp)
def sl20Plan_L1  : (Int × List Int × Int × Int × List Int) → Option (Step (Int × List Int × Int × Int × List Int) (List Int × Int × Int × List Int))
  | (v4, v5, v6, v7, v8) => bif ltB v4 4 then (Option.bind (sl1Once (⟨v5, v6, v7⟩ : Tl1Cur) 3) fun r15 => Option.bind (bif r15.1 then (bif apOk 8 (v8 ++ [v4]).length then (some (v8 ++ [v4])) else none) else (some v8)) fun (v16 : List Int) => some (.next (WR (v4 + 1), r15.2.fb, r15.2.fi, r15.2.fh, v16))) else (some (.done (v5, v6, v7, v8)))
def sl20Plan (a0 : Tl1Cur) : Option (TSubscription × Tl1Cur) :=
  Option.bind (sl1Below a0 9) fun r1 => Option.bind (sl1Below r1.2 4) fun r2 => Option.bind (sl1Below r2.2 20) fun r3 => Option.bind (iter (sl20Plan_L1) FU (0, r3.2.fb, r3.2.fi, r3.2.fh, ([] : List Int))) fun ((v11, v12, v13, v14) : List Int × Int × Int × List Int) => some ((⟨WR (1 + r1.1), WR (1 + r2.1), WR (1 + r3.1), v14⟩ : TSubscription), (⟨v11, v12, v13⟩ : Tl1Cur))
theorem sl20Plan_c {a0 : Tl1Cur} {r : TSubscription × Tl1Cur} (H : sl20Plan a0 = some r) : FnV Tryz.prog 49 [(200, .var 100 [.d false (.l (a0.fb.map eU8)), .d false (.i .i64 a0.fi), .d false (.i .i64 a0.fh)])] [.v (.c (.p 200 0))] [(200, .var 100 [.d false (.l (r.2.fb.map eU8)), .d false (.i .i64 r.2.fi), .d false (.i .i64 r.2.fh)])] (.v (.agg [.d false (.i .i64 r.1.RateLimit), .d false (.i .i64 r.1.BestClass), .d false (.i .i64 r.1.GrantSize), .wn 210 r.1.RoamingNetworks.length])) [(210, .rown 3 1 (r.1.RoamingNetworks.map eI) true)] := by
  refine fn_inV Tryz.func49 rfl (by kernel_rfl) Tryz.ntmps49 rfl rfl rfl ?_
  refine wk ?_
  obtain ⟨r1, hr1, H⟩ := ob H
  refine awr_step rfl (cw (o := 200) (sl1Below_c hr1) rfl rfl rfl rfl rfl rfl trivial rfl rfl rfl rfl) ?_
  refine wk ?_
  obtain ⟨r2, hr2, H⟩ := ob H
  refine awr_step rfl (cw (o := 200) (sl1Below_c hr2) rfl rfl rfl rfl rfl rfl trivial rfl rfl rfl rfl) ?_
  refine wk ?_
  obtain ⟨r3, hr3, H⟩ := ob H
  refine awr_step rfl (cw (o := 200) (sl1Below_c hr3) rfl rfl rfl rfl rfl rfl trivial rfl rfl rfl rfl) ?_
  refine wk ?_
  obtain ⟨⟨v11, v12, v13, v14⟩, Hj, H⟩ := ob H
  refine awc_jblk ⟨[(2, .v (.c (.p 210 0))), (3, .v (.c (.p 211 0)))], [(200, .var 100 [.d false (.l (v11.map eU8)), .d false (.i .i64 v12), .d false (.i .i64 v13)]), (210, .var 30 [.d false (.i .i64 0), .d false (.i .i64 0), .d false (.i .i64 0), .nil]), (211, .var 30 [.d false (.i .i64 (WR (1 + r1.1))), .d false (.i .i64 (WR (1 + r2.1))), .d false (.i .i64 (WR (1 + r3.1))), .wn 212 v14.length]), (212, .rown 3 1 (v14.map eI) true)], 213⟩ ?_ ?_
  · refine wk ?_
    refine awc_iter (fun (q : Int × List Int × Int × Int × List Int) => ⟨[(0, .v (.c (.p 200 0))), (2, .v (.c (.p 210 0))), (3, .v (.c (.p 211 0))), (4, tI q.1)], [(200, .var 100 [.d false (.l (q.2.1.map eU8)), .d false (.i .i64 q.2.2.1), .d false (.i .i64 q.2.2.2.1)]), (210, .var 30 [.d false (.i .i64 0), .d false (.i .i64 0), .d false (.i .i64 0), .nil]), (211, .var 30 [.d false (.i .i64 (WR (1 + r1.1))), .d false (.i .i64 (WR (1 + r2.1))), .d false (.i .i64 (WR (1 + r3.1))), .wn 212 q.2.2.2.2.length]), (212, .rown 3 1 (q.2.2.2.2.map eI) true)], 213⟩) Hj (by refine weak_trans (weak_nnV (o := 211) (j := 3) 3 1 true rfl rfl rfl rfl rfl) ?_; refine weak_trans (weak_wnB (o := 212) (n := ([] : List Int).length) rfl rfl (by repeat (first | exact trivial | refine ⟨by first | rfl | simp, ?_⟩)) (by repeat (first | exact trivial | refine ⟨by first | rfl | simp, ?_⟩))) ?_; exact weak_of ⟨rfl, rfl, rfl, rfl, rfl, rfl, rfl, rfl, trivial⟩ ⟨rfl, ⟨rfl, rfl⟩, rfl, ⟨rfl, rfl⟩, rfl, ⟨rfl, rfl⟩, rfl, ⟨rfl, rfl⟩, trivial⟩) ?_
    rintro ⟨v4, v5, v6, v7, v8⟩ o H
    try dsimp only
    refine wk ?_
    refine awc_cond rfl (fun h => ?_) (fun h => ?_)
    · have H := bt h H
      refine wk ?_
      obtain ⟨r15, hr15, H⟩ := ob H
      refine awr_step rfl (cw (o := 200) (sl1Once_c hr15) rfl rfl rfl rfl rfl rfl trivial rfl rfl rfl rfl) ?_
      refine wk ?_
      obtain ⟨v16, Hj, H⟩ := ob H
      refine awc_join ⟨[(0, .v (.c (.p 200 0))), (2, .v (.c (.p 210 0))), (3, .v (.c (.p 211 0))), (4, tI v4)], [(200, .var 100 [.d false (.l (r15.2.fb.map eU8)), .d false (.i .i64 r15.2.fi), .d false (.i .i64 r15.2.fh)]), (210, .var 30 [.d false (.i .i64 0), .d false (.i .i64 0), .d false (.i .i64 0), .nil]), (211, .var 30 [.d false (.i .i64 (WR (1 + r1.1))), .d false (.i .i64 (WR (1 + r2.1))), .d false (.i .i64 (WR (1 + r3.1))), .wn 212 v16.length]), (212, .rown 3 1 (v16.map eI) true)], 213⟩ ?_ ?_
      · have H := Hj
        refine wk ?_
        refine awc_cond rfl (fun h => ?_) (fun h => ?_)
        · have H := bt h H
          refine wk ?_
          obtain ⟨h, H⟩ := rq H
          refine awr_step rfl (apTn (enc := eI) (ys := v8) (zs := [v4]) h (by first | exact List.cons_ne_nil _ _ | simp) rfl (fun _ => rfl) (by first | rfl | simp) (.w rfl (by first | rfl | exact lm _ | simp)) rfl rfl rfl rfl rfl rfl rfl rfl rfl rfl) ?_
          refine wk ?_
          cases H
          refine weak_trans (weak_toN 212 rfl rfl rfl) ?_
          exact weak_of ⟨rfl, rfl, rfl, rfl, rfl, rfl, rfl, rfl, trivial⟩ ⟨rfl, ⟨rfl, rfl⟩, rfl, ⟨rfl, rfl⟩, rfl, ⟨rfl, rfl⟩, rfl, ⟨rfl, rfl⟩, trivial⟩
        · have H := bf h H
          refine wk ?_
          cases H
          exact weak_of ⟨rfl, rfl, rfl, rfl, rfl, rfl, rfl, rfl, trivial⟩ ⟨rfl, ⟨rfl, rfl⟩, rfl, ⟨rfl, rfl⟩, rfl, ⟨rfl, rfl⟩, rfl, ⟨rfl, rfl⟩, trivial⟩
      refine wk ?_
      cases H
      refine iq_n ?_
      exact weak_of ⟨rfl, rfl, rfl, rfl, rfl, rfl, rfl, rfl, trivial⟩ ⟨rfl, ⟨rfl, rfl⟩, rfl, ⟨rfl, rfl⟩, rfl, ⟨rfl, rfl⟩, rfl, ⟨rfl, rfl⟩, trivial⟩
    · have H := bf h H
      refine wk ?_
      cases H
      refine iq_e (fun hq => ?_)
      cases hq
      refine wk ?_
      exact weak_of ⟨rfl, rfl, rfl, rfl, trivial⟩ ⟨rfl, ⟨rfl, rfl⟩, rfl, ⟨rfl, rfl⟩, rfl, ⟨rfl, rfl⟩, rfl, ⟨rfl, rfl⟩, trivial⟩
  refine wk ?_
  cases H
  refine clo_v (weak_swp (p := 212) (q := 210) rfl rfl rfl rfl) ?_
  exact fin_retV (.cons (.cell rfl rfl rfl) .nil) rfl (by first | rfl | simp) ⟨rfl, trivial⟩ ⟨rfl, trivial⟩
def sl20Any (a0 : Tl1Cur) : Option (TSubscription × Tl1Cur) :=
  Option.bind (sl20Plan a0) fun r1 => Option.bind (sl1Below r1.2 8) fun r2 => Option.bind (bif eqB r2.1 0 then (Option.bind (sl1Int r2.2 [0, 1000, 1001]) fun r10 => some (r10.2.fb, r10.2.fi, r10.2.fh, r10.1, r1.1.BestClass, r1.1.GrantSize, r1.1.RoamingNetworks)) else (Option.bind (bif eqB r2.1 1 then (Option.bind (sl1Int r2.2 [0, 100000, 100001]) fun r17 => some (r17.2.fb, r17.2.fi, r17.2.fh, r1.1.BestClass, r17.1, r1.1.RoamingNetworks)) else (Option.bind (bif eqB r2.1 2 then (Option.bind (sl1Below r2.2 6) fun r23 => bif apOk 8 (r1.1.RoamingNetworks ++ [WR (r23.1 - 1)]).length then (some (r23.2.fb, r23.2.fi, r23.2.fh, r1.1.BestClass, (r1.1.RoamingNetworks ++ [WR (r23.1 - 1)]))) else none) else (Option.bind (bif eqB r2.1 3 then (Option.bind (sl1Int r2.2 [0, 4, 5]) fun r28 => some (r28.2.fb, r28.2.fi, r28.2.fh, r28.1)) else (some (r2.2.fb, r2.2.fi, r2.2.fh, r1.1.BestClass))) fun ((v24, v25, v26, v27) : List Int × Int × Int × Int) => some (v24, v25, v26, v27, r1.1.RoamingNetworks))) fun ((v18, v19, v20, v21, v22) : List Int × Int × Int × Int × List Int) => some (v18, v19, v20, v21, r1.1.GrantSize, v22))) fun ((v11, v12, v13, v14, v15, v16) : List Int × Int × Int × Int × Int × List Int) => some (v11, v12, v13, r1.1.RateLimit, v14, v15, v16))) fun ((v3, v4, v5, v6, v7, v8, v9) : List Int × Int × Int × Int × Int × Int × List Int) => some ((⟨v6, v7, v8, v9⟩ : TSubscription), (⟨v3, v4, v5⟩ : Tl1Cur))
theorem sl20Any_c {a0 : Tl1Cur} {r : TSubscription × Tl1Cur} (H : sl20Any a0 = some r) : FnV Tryz.prog 17 [(200, .var 100 [.d false (.l (a0.fb.map eU8)), .d false (.i .i64 a0.fi), .d false (.i .i64 a0.fh)])] [.v (.c (.p 200 0))] [(200, .var 100 [.d false (.l (r.2.fb.map eU8)), .d false (.i .i64 r.2.fi), .d false (.i .i64 r.2.fh)])] (.v (.agg [.d false (.i .i64 r.1.RateLimit), .d false (.i .i64 r.1.BestClass), .d false (.i .i64 r.1.GrantSize), .wn 210 r.1.RoamingNetworks.length])) [(210, .rown 3 1 (r.1.RoamingNetworks.map eI) true)] := by
  refine fn_inV Tryz.func17 rfl (by kernel_rfl) Tryz.ntmps17 rfl rfl rfl ?_
  refine wkz ?_
  obtain ⟨r1, hr1, H⟩ := ob H
  refine awr_step rfl (cwv [(200, 200)] [(210, 211)] 212 (sl20Plan_c hr1) rfl rfl rfl rfl rfl rfl rfl rfl rfl rfl rfl rfl rfl rfl) ?_
  refine wkz ?_
  obtain ⟨r2, hr2, H⟩ := ob H
  refine awr_step rfl (cw (o := 200) (sl1Below_c hr2) rfl rfl rfl rfl rfl rfl trivial rfl rfl rfl rfl) ?_
  refine wkz ?_
  obtain ⟨⟨v3, v4, v5, v6, v7, v8, v9⟩, Hj, H⟩ := ob H
  refine awc_join ⟨[(2, .v (.c (.p 210 0))), (3, .v (.c (.p 212 0)))], [(200, .var 100 [.d false (.l (v3.map eU8)), .d false (.i .i64 v4), .d false (.i .i64 v5)]), (210, .var 30 [.d false (.i .i64 0), .d false (.i .i64 0), .d false (.i .i64 0), .nil]), (211, .rown 3 1 (v9.map eI) true), (212, .var 30 [.d false (.i .i64 v6), .d false (.i .i64 v7), .d false (.i .i64 v8), .wn 211 v9.length])], 213⟩ ?_ ?_
  · have H := Hj
    refine wkz ?_
    refine awc_cond rfl (fun h => ?_) (fun h => ?_)
    · have H := bt h H
      refine wkz ?_
      obtain ⟨r10, hr10, H⟩ := ob H
      refine awr_weak (weak_frz (o := 213) rfl rfl) ?_
      refine awr_weak (weak_cast (k := 11) rfl rfl ⟨by first | rfl | simp, trivial⟩) ?_
      refine awr_step rfl (cw (o := 200) (sl1Int_c hr10) rfl rfl rfl rfl rfl rfl trivial rfl rfl rfl rfl) ?_
      refine wkz ?_
      cases H
      exact weak_of ⟨rfl, rfl, rfl, rfl, trivial⟩ ⟨rfl, ⟨rfl, rfl⟩, rfl, ⟨rfl, rfl⟩, rfl, ⟨rfl, rfl⟩, rfl, ⟨rfl, rfl⟩, trivial⟩
    · have H := bf h H
      refine wkz ?_
      obtain ⟨⟨v11, v12, v13, v14, v15, v16⟩, Hj, H⟩ := ob H
      refine awc_join ⟨[(2, .v (.c (.p 210 0))), (3, .v (.c (.p 212 0)))], [(200, .var 100 [.d false (.l (v11.map eU8)), .d false (.i .i64 v12), .d false (.i .i64 v13)]), (210, .var 30 [.d false (.i .i64 0), .d false (.i .i64 0), .d false (.i .i64 0), .nil]), (211, .rown 3 1 (v16.map eI) true), (212, .var 30 [.d false (.i .i64 r1.1.RateLimit), .d false (.i .i64 v14), .d false (.i .i64 v15), .wn 211 v16.length])], 213⟩ ?_ ?_
      · have H := Hj
        refine wkz ?_
        refine awc_cond rfl (fun h => ?_) (fun h => ?_)
        · have H := bt h H
          refine wkz ?_
          obtain ⟨r17, hr17, H⟩ := ob H
          refine awr_weak (weak_frz (o := 213) rfl rfl) ?_
          refine awr_weak (weak_cast (k := 17) rfl rfl ⟨by first | rfl | simp, trivial⟩) ?_
          refine awr_step rfl (cw (o := 200) (sl1Int_c hr17) rfl rfl rfl rfl rfl rfl trivial rfl rfl rfl rfl) ?_
          refine wkz ?_
          cases H
          exact weak_of ⟨rfl, rfl, rfl, rfl, trivial⟩ ⟨rfl, ⟨rfl, rfl⟩, rfl, ⟨rfl, rfl⟩, rfl, ⟨rfl, rfl⟩, rfl, ⟨rfl, rfl⟩, trivial⟩
        · have H := bf h H
          refine wkz ?_
          obtain ⟨⟨v18, v19, v20, v21, v22⟩, Hj, H⟩ := ob H
          refine awc_join ⟨[(2, .v (.c (.p 210 0))), (3, .v (.c (.p 212 0)))], [(200, .var 100 [.d false (.l (v18.map eU8)), .d false (.i .i64 v19), .d false (.i .i64 v20)]), (210, .var 30 [.d false (.i .i64 0), .d false (.i .i64 0), .d false (.i .i64 0), .nil]), (211, .rown 3 1 (v22.map eI) true), (212, .var 30 [.d false (.i .i64 r1.1.RateLimit), .d false (.i .i64 v21), .d false (.i .i64 r1.1.GrantSize), .wn 211 v22.length])], 213⟩ ?_ ?_
          · have H := Hj
            refine wkz ?_
            refine awc_cond rfl (fun h => ?_) (fun h => ?_)
            · have H := bt h H
              refine wkz ?_
              refine awc_dz [0, 1, 2, 3, 4, 5, 6, 7, 8] Try.follows (by kernel_rfl) (by kernel_rfl) rfl ?_
              refine wkz ?_
              obtain ⟨r23, hr23, H⟩ := ob H
              refine dz_w rfl (cwx (o := 200) (sl1Below_c hr23) rfl rfl rfl rfl rfl rfl trivial rfl rfl rfl rfl) ?_
              refine wkz ?_
              obtain ⟨h, H⟩ := rq H
              refine dz_bar (by kernel_rfl) rfl (by kernel_rfl) weak_id (bo_n rfl (apTn (enc := eI) (ys := r1.1.RoamingNetworks) (zs := [WR (r23.1 - 1)]) h (by first | exact List.cons_ne_nil _ _ | simp) rfl (fun _ => rfl) (by first | rfl | simp) (.w rfl (by first | rfl | exact lm _ | simp)) rfl rfl rfl rfl rfl rfl rfl rfl rfl rfl)) weak_id rfl ?_
              refine wkz ?_
              refine dz_w rfl (spx 100034 rfl rfl rfl rfl rfl rfl rfl rfl) ?_
              refine wkz ?_
              cases H
              refine weak_trans (weak_toN 211 rfl rfl rfl) ?_
              exact weak_of ⟨rfl, rfl, rfl, rfl, trivial⟩ ⟨rfl, ⟨rfl, rfl⟩, rfl, ⟨rfl, rfl⟩, rfl, ⟨rfl, rfl⟩, rfl, ⟨rfl, rfl⟩, trivial⟩
            · have H := bf h H
              refine wkz ?_
              obtain ⟨⟨v24, v25, v26, v27⟩, Hj, H⟩ := ob H
              refine awc_join ⟨[(2, .v (.c (.p 210 0))), (3, .v (.c (.p 212 0)))], [(200, .var 100 [.d false (.l (v24.map eU8)), .d false (.i .i64 v25), .d false (.i .i64 v26)]), (210, .var 30 [.d false (.i .i64 0), .d false (.i .i64 0), .d false (.i .i64 0), .nil]), (211, .rown 3 1 (r1.1.RoamingNetworks.map eI) true), (212, .var 30 [.d false (.i .i64 r1.1.RateLimit), .d false (.i .i64 v27), .d false (.i .i64 r1.1.GrantSize), .wn 211 r1.1.RoamingNetworks.length])], 213⟩ ?_ ?_
              · have H := Hj
                refine wkz ?_
                refine awc_cond rfl (fun h => ?_) (fun h => ?_)
                · have H := bt h H
                  refine wkz ?_
                  obtain ⟨r28, hr28, H⟩ := ob H
                  refine awr_weak (weak_frz (o := 213) rfl rfl) ?_
                  refine awr_weak (weak_cast (k := 33) rfl rfl ⟨by first | rfl | simp, trivial⟩) ?_
                  refine awr_step rfl (cw (o := 200) (sl1Int_c hr28) rfl rfl rfl rfl rfl rfl trivial rfl rfl rfl rfl) ?_
                  refine wkz ?_
                  cases H
                  exact weak_of ⟨rfl, rfl, rfl, rfl, trivial⟩ ⟨rfl, ⟨rfl, rfl⟩, rfl, ⟨rfl, rfl⟩, rfl, ⟨rfl, rfl⟩, rfl, ⟨rfl, rfl⟩, trivial⟩
                · have H := bf h H
                  refine wkz ?_
                  cases H
                  exact weak_of ⟨rfl, rfl, rfl, rfl, trivial⟩ ⟨rfl, ⟨rfl, rfl⟩, rfl, ⟨rfl, rfl⟩, rfl, ⟨rfl, rfl⟩, rfl, ⟨rfl, rfl⟩, trivial⟩
              refine wkz ?_
              cases H
              exact weak_of ⟨rfl, rfl, rfl, rfl, trivial⟩ ⟨rfl, ⟨rfl, rfl⟩, rfl, ⟨rfl, rfl⟩, rfl, ⟨rfl, rfl⟩, rfl, ⟨rfl, rfl⟩, trivial⟩
          refine wkz ?_
          cases H
          exact weak_of ⟨rfl, rfl, rfl, rfl, trivial⟩ ⟨rfl, ⟨rfl, rfl⟩, rfl, ⟨rfl, rfl⟩, rfl, ⟨rfl, rfl⟩, rfl, ⟨rfl, rfl⟩, trivial⟩
      refine wkz ?_
      cases H
      exact weak_of ⟨rfl, rfl, rfl, rfl, trivial⟩ ⟨rfl, ⟨rfl, rfl⟩, rfl, ⟨rfl, rfl⟩, rfl, ⟨rfl, rfl⟩, rfl, ⟨rfl, rfl⟩, trivial⟩
  refine wkz ?_
  cases H
  refine clo_v (weak_swp (p := 211) (q := 210) rfl rfl rfl rfl) ?_
  exact fin_retV (.cons (.cell rfl rfl rfl) .nil) rfl (by first | rfl | simp) ⟨rfl, trivial⟩ ⟨rfl, trivial⟩
def sDrawNewNetwork_L1  : (Int × List TSubscriberRecord) → Option (Step (Int × List TSubscriberRecord) (List TSubscriberRecord))
  | (v16, v17) => bif ltB v16 3 then (bif apOk 32 (v17 ++ [(⟨(⟨2, v16⟩ : TSubscriberID), 7, 0⟩ : TSubscriberRecord)]).length then (some (.next (WR (v16 + 1), (v17 ++ [(⟨(⟨2, v16⟩ : TSubscriberID), 7, 0⟩ : TSubscriberRecord)])))) else none) else (some (.done v17))
def sDrawNewNetwork (a0 : List Int) : Option (TCellMap × List TSubscriberRecord × TSubscription × Int) :=
  Option.bind (sl1New a0) fun r1 => Option.bind (sl10Any r1) fun r2 => Option.bind (sl32Subscribers r2.2) fun r3 => Option.bind (sl1Below r3.2 8) fun r4 => Option.bind (bif eqB r4.1 0 then (Option.bind (ix r3.1 0) fun x9 => bif apOk 32 (r3.1 ++ [x9]).length then (some ((r3.1 ++ [x9]), r4.2.fb, r4.2.fi, r4.2.fh)) else none) else (Option.bind (bif eqB r4.1 1 then (Option.bind (sl6Any r4.2) fun r14 => bif apOk 32 (r3.1 ++ [r14.2.1]).length then (some ((r3.1 ++ [r14.2.1]), r14.2.2.fb, r14.2.2.fi, r14.2.2.fh)) else none) else (Option.bind (bif eqB r4.1 2 then (Option.bind (iter (sDrawNewNetwork_L1) FU (0, r3.1)) fun (v18 : List TSubscriberRecord) => some v18) else (some r3.1)) fun (v15 : List TSubscriberRecord) => some (v15, r4.2.fb, r4.2.fi, r4.2.fh))) fun ((v10, v11, v12, v13) : List TSubscriberRecord × List Int × Int × Int) => some (v10, v11, v12, v13))) fun ((v5, v6, v7, v8) : List TSubscriberRecord × List Int × Int × Int) => Option.bind (sl20Any (⟨v6, v7, v8⟩ : Tl1Cur)) fun r19 => Option.bind (sl1Int r19.2 [50, 0, -1, 100001]) fun r20 => some (r2.1, v5, r19.1, r20.1)
theorem sDrawNewNetwork_c {a0 : List Int} {r : TCellMap × List TSubscriberRecord × TSubscription × Int} (H : sDrawNewNetwork a0 = some r) : FnV Tryz.prog 5 [] [.v (.c (.d false (.l (a0.map eU8))))] [] (.tup [.agg [.wn 210 r.1.Cells.length], .c (.w 211 r.2.1.length), .agg [.d false (.i .i64 r.2.2.1.RateLimit), .d false (.i .i64 r.2.2.1.BestClass), .d false (.i .i64 r.2.2.1.GrantSize), .d true (.l (r.2.2.1.RoamingNetworks.map eI))], .c (.d false (.i .i64 r.2.2.2))]) [(210, .rown 102 2 (r.1.Cells.map eTCell) true), (211, .row 54 4 (r.2.1.map eTSubscriberRecord) true true)] := by
  refine fn_inV Tryz.func5 rfl (by kernel_rfl) Tryz.ntmps5 rfl rfl rfl ?_
  refine wkz ?_
  obtain ⟨r1, hr1, H⟩ := ob H
  refine awr_n rfl (cn (sl1New_c hr1) rfl rfl trivial rfl rfl rfl) ?_
  refine wkz ?_
  obtain ⟨r2, hr2, H⟩ := ob H
  refine awr_step rfl (cwv [(200, 212)] [(210, 213)] 214 (sl10Any_c hr2) rfl rfl rfl rfl rfl rfl rfl rfl rfl rfl rfl rfl rfl rfl) ?_
  refine wkz ?_
  obtain ⟨r3, hr3, H⟩ := ob H
  refine awr_step rfl (cw (o := 212) (sl32Subscribers_c hr3) rfl rfl rfl rfl rfl rfl trivial rfl rfl rfl rfl) ?_
  refine wkz ?_
  obtain ⟨r4, hr4, H⟩ := ob H
  refine awr_step rfl (cw (o := 212) (sl1Below_c hr4) rfl rfl rfl rfl rfl rfl trivial rfl rfl rfl rfl) ?_
  refine wkz ?_
  obtain ⟨⟨v5, v6, v7, v8⟩, Hj, H⟩ := ob H
  refine awc_join ⟨[(2, .v (.c (.p 210 0))), (4, .v (.c (.p 211 0))), (6, .v (.c (.p 212 0))), (7, .v (.c (.p 214 0))), (8, .v (.c (.w 215 v5.length)))], [(210, .var 26 [.nil]), (211, .var 30 [.d false (.i .i64 0), .d false (.i .i64 0), .d false (.i .i64 0), .nil]), (212, .var 100 [.d false (.l (v6.map eU8)), .d false (.i .i64 v7), .d false (.i .i64 v8)]), (213, .rown 102 2 (r2.1.Cells.map eTCell) true), (214, .var 26 [.wn 213 r2.1.Cells.length]), (215, .row 54 4 (v5.map eTSubscriberRecord) true true)], 216⟩ ?_ ?_
  · have H := Hj
    refine wkz ?_
    refine awc_cond rfl (fun h => ?_) (fun h => ?_)
    · have H := bt h H
      refine wkz ?_
      obtain ⟨x9, hx9, H⟩ := ob H
      refine awr_n rfl (xwT hx9 (by first | rfl | simp) rfl rfl rfl) ?_
      refine wkz ?_
      refine awr_n rfl (oea rfl rfl rfl (ix_map eTSubscriberRecord hx9) rfl) ?_
      refine wkz ?_
      obtain ⟨h, H⟩ := rq H
      refine awr_step rfl (apT (enc := eTSubscriberRecord) (ys := r3.1) (zs := [x9]) h rfl (fun _ => rfl) (by first | rfl | simp) (.w rfl (by first | rfl | exact lm _ | simp)) rfl rfl rfl rfl rfl rfl rfl rfl) ?_
      refine wkz ?_
      cases H
      exact weak_of ⟨rfl, rfl, rfl, rfl, rfl, rfl, rfl, rfl, wn rfl (by first | rfl | simp), rfl, trivial⟩ ⟨rfl, ⟨rfl, rfl⟩, rfl, ⟨rfl, rfl⟩, rfl, ⟨rfl, rfl⟩, rfl, ⟨rfl, rfl⟩, rfl, ⟨rfl, rfl⟩, rfl, ⟨rfl, rfl⟩, trivial⟩
    · have H := bf h H
      refine wkz ?_
      obtain ⟨⟨v10, v11, v12, v13⟩, Hj, H⟩ := ob H
      refine awc_join ⟨[(2, .v (.c (.p 210 0))), (4, .v (.c (.p 211 0))), (6, .v (.c (.p 212 0))), (7, .v (.c (.p 214 0))), (8, .v (.c (.w 215 v10.length)))], [(210, .var 26 [.nil]), (211, .var 30 [.d false (.i .i64 0), .d false (.i .i64 0), .d false (.i .i64 0), .nil]), (212, .var 100 [.d false (.l (v11.map eU8)), .d false (.i .i64 v12), .d false (.i .i64 v13)]), (213, .rown 102 2 (r2.1.Cells.map eTCell) true), (214, .var 26 [.wn 213 r2.1.Cells.length]), (215, .row 54 4 (v10.map eTSubscriberRecord) true true)], 216⟩ ?_ ?_
      · have H := Hj
        refine wkz ?_
        refine awc_cond rfl (fun h => ?_) (fun h => ?_)
        · have H := bt h H
          refine wkz ?_
          obtain ⟨r14, hr14, H⟩ := ob H
          refine awr_step rfl (cw (o := 212) (sl6Any_c hr14) rfl rfl rfl rfl rfl rfl trivial rfl rfl rfl rfl) ?_
          refine wkz ?_
          obtain ⟨h, H⟩ := rq H
          refine awr_step rfl (apT (enc := eTSubscriberRecord) (ys := r3.1) (zs := [r14.2.1]) h rfl (fun _ => rfl) (by first | rfl | simp) (.w rfl (by first | rfl | exact lm _ | simp)) rfl rfl rfl rfl rfl rfl rfl rfl) ?_
          refine wkz ?_
          cases H
          exact weak_of ⟨rfl, rfl, rfl, rfl, rfl, rfl, rfl, rfl, wn rfl (by first | rfl | simp), rfl, trivial⟩ ⟨rfl, ⟨rfl, rfl⟩, rfl, ⟨rfl, rfl⟩, rfl, ⟨rfl, rfl⟩, rfl, ⟨rfl, rfl⟩, rfl, ⟨rfl, rfl⟩, rfl, ⟨rfl, rfl⟩, trivial⟩
        · have H := bf h H
          refine wkz ?_
          obtain ⟨v15, Hj, H⟩ := ob H
          refine awc_join ⟨[(2, .v (.c (.p 210 0))), (4, .v (.c (.p 211 0))), (6, .v (.c (.p 212 0))), (7, .v (.c (.p 214 0))), (8, .v (.c (.w 215 v15.length)))], [(210, .var 26 [.nil]), (211, .var 30 [.d false (.i .i64 0), .d false (.i .i64 0), .d false (.i .i64 0), .nil]), (212, .var 100 [.d false (.l (r4.2.fb.map eU8)), .d false (.i .i64 r4.2.fi), .d false (.i .i64 r4.2.fh)]), (213, .rown 102 2 (r2.1.Cells.map eTCell) true), (214, .var 26 [.wn 213 r2.1.Cells.length]), (215, .row 54 4 (v15.map eTSubscriberRecord) true true)], 216⟩ ?_ ?_
          · have H := Hj
            refine wkz ?_
            refine awc_cond rfl (fun h => ?_) (fun h => ?_)
            · have H := bt h H
              refine wkz ?_
              obtain ⟨v18, Hj, H⟩ := ob H
              refine awc_jblk ⟨[(2, .v (.c (.p 210 0))), (4, .v (.c (.p 211 0))), (6, .v (.c (.p 212 0))), (7, .v (.c (.p 214 0))), (8, .v (.c (.w 215 v18.length)))], [(210, .var 26 [.nil]), (211, .var 30 [.d false (.i .i64 0), .d false (.i .i64 0), .d false (.i .i64 0), .nil]), (212, .var 100 [.d false (.l (r4.2.fb.map eU8)), .d false (.i .i64 r4.2.fi), .d false (.i .i64 r4.2.fh)]), (213, .rown 102 2 (r2.1.Cells.map eTCell) true), (214, .var 26 [.wn 213 r2.1.Cells.length]), (215, .row 54 4 (v18.map eTSubscriberRecord) true true)], 216⟩ ?_ ?_
              · refine wkz ?_
                refine awc_iter (fun (q : Int × List TSubscriberRecord) => ⟨[(2, .v (.c (.p 210 0))), (4, .v (.c (.p 211 0))), (6, .v (.c (.p 212 0))), (7, .v (.c (.p 214 0))), (8, .v (.c (.w 215 q.2.length))), (11, tI q.1)], [(210, .var 26 [.nil]), (211, .var 30 [.d false (.i .i64 0), .d false (.i .i64 0), .d false (.i .i64 0), .nil]), (212, .var 100 [.d false (.l (r4.2.fb.map eU8)), .d false (.i .i64 r4.2.fi), .d false (.i .i64 r4.2.fh)]), (213, .rown 102 2 (r2.1.Cells.map eTCell) true), (214, .var 26 [.wn 213 r2.1.Cells.length]), (215, .row 54 4 (q.2.map eTSubscriberRecord) true true)], 216⟩) Hj (weak_of ⟨rfl, rfl, rfl, rfl, rfl, rfl, rfl, rfl, wn rfl (by first | rfl | simp), rfl, rfl, rfl, trivial⟩ ⟨rfl, ⟨rfl, rfl⟩, rfl, ⟨rfl, rfl⟩, rfl, ⟨rfl, rfl⟩, rfl, ⟨rfl, rfl⟩, rfl, ⟨rfl, rfl⟩, rfl, ⟨rfl, rfl⟩, trivial⟩) ?_
                rintro ⟨v16, v17⟩ o H
                try dsimp only
                refine wkz ?_
                refine awc_cond rfl (fun h => ?_) (fun h => ?_)
                · have H := bt h H
                  refine wkz ?_
                  obtain ⟨h, H⟩ := rq H
                  refine awr_step rfl (apT (enc := eTSubscriberRecord) (ys := v17) (zs := [(⟨(⟨2, v16⟩ : TSubscriberID), 7, 0⟩ : TSubscriberRecord)]) h rfl (fun _ => rfl) (by first | rfl | simp) (.w rfl (by first | rfl | exact lm _ | simp)) rfl rfl rfl rfl rfl rfl rfl rfl) ?_
                  refine wkz ?_
                  cases H
                  refine iq_n ?_
                  exact weak_of ⟨rfl, rfl, rfl, rfl, rfl, rfl, rfl, rfl, wn rfl (by first | rfl | simp), rfl, rfl, rfl, trivial⟩ ⟨rfl, ⟨rfl, rfl⟩, rfl, ⟨rfl, rfl⟩, rfl, ⟨rfl, rfl⟩, rfl, ⟨rfl, rfl⟩, rfl, ⟨rfl, rfl⟩, rfl, ⟨rfl, rfl⟩, trivial⟩
                · have H := bf h H
                  refine wkz ?_
                  cases H
                  refine iq_e (fun hq => ?_)
                  cases hq
                  refine wkz ?_
                  exact weak_of ⟨rfl, rfl, rfl, rfl, rfl, rfl, rfl, rfl, wn rfl (by first | rfl | simp), rfl, trivial⟩ ⟨rfl, ⟨rfl, rfl⟩, rfl, ⟨rfl, rfl⟩, rfl, ⟨rfl, rfl⟩, rfl, ⟨rfl, rfl⟩, rfl, ⟨rfl, rfl⟩, rfl, ⟨rfl, rfl⟩, trivial⟩
              refine wkz ?_
              cases H
              exact weak_of ⟨rfl, rfl, rfl, rfl, rfl, rfl, rfl, rfl, wn rfl (by first | rfl | simp), rfl, trivial⟩ ⟨rfl, ⟨rfl, rfl⟩, rfl, ⟨rfl, rfl⟩, rfl, ⟨rfl, rfl⟩, rfl, ⟨rfl, rfl⟩, rfl, ⟨rfl, rfl⟩, rfl, ⟨rfl, rfl⟩, trivial⟩
            · have H := bf h H
              refine wkz ?_
              cases H
              exact weak_of ⟨rfl, rfl, rfl, rfl, rfl, rfl, rfl, rfl, wn rfl (by first | rfl | simp), rfl, trivial⟩ ⟨rfl, ⟨rfl, rfl⟩, rfl, ⟨rfl, rfl⟩, rfl, ⟨rfl, rfl⟩, rfl, ⟨rfl, rfl⟩, rfl, ⟨rfl, rfl⟩, rfl, ⟨rfl, rfl⟩, trivial⟩
          refine wkz ?_
          cases H
          exact weak_of ⟨rfl, rfl, rfl, rfl, rfl, rfl, rfl, rfl, wn rfl (by first | rfl | simp), rfl, trivial⟩ ⟨rfl, ⟨rfl, rfl⟩, rfl, ⟨rfl, rfl⟩, rfl, ⟨rfl, rfl⟩, rfl, ⟨rfl, rfl⟩, rfl, ⟨rfl, rfl⟩, rfl, ⟨rfl, rfl⟩, trivial⟩
      refine wkz ?_
      cases H
      exact weak_of ⟨rfl, rfl, rfl, rfl, rfl, rfl, rfl, rfl, wn rfl (by first | rfl | simp), rfl, trivial⟩ ⟨rfl, ⟨rfl, rfl⟩, rfl, ⟨rfl, rfl⟩, rfl, ⟨rfl, rfl⟩, rfl, ⟨rfl, rfl⟩, rfl, ⟨rfl, rfl⟩, rfl, ⟨rfl, rfl⟩, trivial⟩
  refine wkz ?_
  refine awc_dz [0, 1, 2, 3, 4, 5, 6, 7, 8, 9, 10] Try.follows (by kernel_rfl) (by kernel_rfl) rfl ?_
  refine wkb ?_
  obtain ⟨r19, hr19, H⟩ := ob H
  refine dz_w rfl (cwx (o := 212) (FnV.frzW (sl20Any_c hr19) rfl rfl ⟨by first | rfl | simp, trivial⟩ rfl) rfl rfl rfl rfl rfl rfl trivial rfl rfl rfl rfl) ?_
  refine wkb ?_
  refine dz_w rfl (bsx (bs rfl rfl rfl rfl rfl rfl rfl rfl) rfl) ?_
  refine wkb ?_
  obtain ⟨r20, hr20, H⟩ := ob H
  refine dz_w rfl (cwx (o := 212) (sl1Int_c hr20) rfl rfl rfl rfl rfl rfl trivial rfl rfl rfl rfl) ?_
  refine wkb ?_
  refine dz_w rfl (spx 100040 rfl rfl rfl rfl rfl rfl rfl rfl) ?_
  refine wkb ?_
  refine dz_w rfl (spx 100039 rfl rfl rfl rfl rfl rfl rfl rfl) ?_
  refine wkb ?_
  refine wkz ?_
  cases H
  refine clo_v (weak_swp (p := 213) (q := 210) rfl rfl rfl rfl) ?_
  refine clo_v (weak_swp (p := 215) (q := 211) rfl rfl rfl rfl) ?_
  exact fin_retV (.cons (.cell rfl rfl rfl) (.cons (.tmp rfl) (.cons (.cell rfl rfl rfl) (.cons (.tmp rfl) .nil)))) rfl (by first | rfl | simp) trivial ⟨rfl, rfl, trivial⟩
def sl1In (a0 : Int) (a1 : Int) (a2 : Int) : Option Bool :=
  Option.bind (bif leB a1 a0 then (some (leB a0 a2)) else (some false)) fun (v1 : Bool) => some v1
theorem sl1In_c {a0 : Int} {a1 : Int} {a2 : Int} {r : Bool} (H : sl1In a0 a1 a2 = some r) : Fn Tryz.prog 29 [aI a0, aI a1, aI a2] [.c (.d (.b r))] := by
  refine fn_in Tryz.func29 rfl (by kernel_rfl) Tryz.ntmps29 rfl rfl rfl ?_
  refine wk ?_
  obtain ⟨v1, Hj, H⟩ := ob H
  refine awr_join ⟨[(6, tB v1)], [], 0⟩ ?_ ?_
  · have H := Hj
    refine wk ?_
    refine g2 rfl rfl rfl (fun h => ?_) (fun h => ?_)
    · have H := bt h H
      refine wk ?_
      cases H
      exact weak_of ⟨rfl, rfl, trivial⟩ trivial
    · have H := bf h H
      refine wk ?_
      cases H
      exact weak_of ⟨rfl, rfl, trivial⟩ trivial
  refine wk ?_
  cases H
  exact fin_ret (.cons (.tmp rfl) .nil) rfl rfl rfl
def sIsValidMap_L2 (a0 : TCellMap) (v1 : Int) (x2 : TCell) : Int → Option (Step (Int) (Step (Int) (Bool)))
  | v4 => bif ltB v4 ((x2.Neighbors.length : Nat) : Int) then (Option.bind (ix x2.Neighbors v4) fun x5 => Option.bind (sl1In x5 0 (WR (((a0.Cells.length : Nat) : Int) - 1))) fun r6 => Option.bind (bif !r6 then (some true) else (bif eqB x5 v1 then (some true) else (bif ltB 0 v4 then (Option.bind (ix x2.Neighbors (WR (v4 - 1))) fun x8 => bif leB x5 x8 then (some true) else (Option.bind (ix a0.Cells x5) fun x9 => Option.bind (sl10Has x9.Neighbors v1) fun r10 => some (!r10))) else (Option.bind (ix a0.Cells x5) fun x11 => Option.bind (sl10Has x11.Neighbors v1) fun r12 => some (!r12))))) fun (v7 : Bool) => bif v7 then (dn (dn (some false))) else (some (.next (WR (v4 + 1))))) else (dn (some (.next (WR (v1 + 1)))))
def sIsValidMap_L1 (a0 : TCellMap) : Int → Option (Step (Int) (Bool))
  | v1 => bif ltB v1 ((a0.Cells.length : Nat) : Int) then (Option.bind (ix a0.Cells v1) fun x2 => Option.bind (sl1In x2.Area 0 2) fun r3 => bif !r3 then (dn (some false)) else (iter (sIsValidMap_L2 a0 v1 x2) FU 0)) else (dn (Option.bind (sl1In ((a0.Cells.length : Nat) : Int) 1 6) fun r13 => some r13))
def sIsValidMap (a0 : TCellMap) : Option Bool :=
  iter (sIsValidMap_L1 a0) FU 0
theorem sIsValidMap_c {a0 : TCellMap} {r : Bool} (H : sIsValidMap a0 = some r) : Fn Tryz.prog 26 [.agg (eTCellMap a0)] [.c (.d (.b r))] := by
  refine fn_in Tryz.func26 rfl (by kernel_rfl) Tryz.ntmps26 rfl rfl rfl ?_
  refine wk ?_
  refine awc_iter (fun (q : Int) => ⟨[(1, .v (.c (.p 0 0))), (3, tI q)], [(0, .var 26 [.d false (.l (a0.Cells.map eTCell))])], 1⟩) H (weak_of ⟨rfl, rfl, rfl, rfl, trivial⟩ ⟨rfl, ⟨rfl, rfl⟩, trivial⟩) ?_
  rintro v1 o H
  try dsimp only
  refine wk ?_
  refine awc_cond rfl (fun h => ?_) (fun h => ?_)
  · have H := bt h H
    refine wk ?_
    obtain ⟨x2, hx2, H⟩ := ob H
    refine awr_n rfl (xdT (enc := eTCell) hx2 (fun _ => rfl) rfl rfl rfl) ?_
    refine wk ?_
    obtain ⟨r3, hr3, H⟩ := ob H
    refine awr_n rfl (ca rfl rfl rfl (sl1In_c hr3) trivial rfl rfl rfl rfl) ?_
    refine wk ?_
    refine awc_cond rfl (fun h => ?_) (fun h => ?_)
    · have H := bt h H
      refine wk ?_
      obtain ⟨r0, Hd, rfl⟩ := dnE H
      refine iq_r (fun hq => ?_)
      have H := Hd.trans (congrArg some hq)
      refine wk ?_
      cases H
      exact fin_ret (.cons (.tmp rfl) .nil) rfl rfl rfl
    · have H := bf h H
      refine wk ?_
      refine awc_iter (fun (q : Int) => ⟨[(1, .v (.c (.p 0 0))), (3, tI v1), (4, .v (.c (.p 1 0))), (5, tI q)], [(0, .var 26 [.d false (.l (a0.Cells.map eTCell))]), (1, .var 102 [.d false (.i .i64 x2.Area), .d false (.l (x2.Neighbors.map eI))])], 2⟩) H (weak_of ⟨rfl, rfl, rfl, rfl, rfl, rfl, rfl, rfl, trivial⟩ ⟨rfl, ⟨rfl, rfl⟩, rfl, ⟨rfl, rfl⟩, trivial⟩) ?_
      rintro v4 o H
      try dsimp only
      refine wk ?_
      refine awc_cond rfl (fun h => ?_) (fun h => ?_)
      · have H := bt h H
        refine wk ?_
        obtain ⟨x5, hx5, H⟩ := ob H
        refine awr_n rfl (xdT (enc := eI) hx5 (fun _ => rfl) rfl rfl rfl) ?_
        refine wk ?_
        obtain ⟨r6, hr6, H⟩ := ob H
        refine awr_n rfl (ca rfl rfl rfl (sl1In_c hr6) trivial rfl rfl rfl rfl) ?_
        refine wk ?_
        obtain ⟨v7, Hj, H⟩ := ob H
        refine awr_join ⟨[(1, .v (.c (.p 0 0))), (3, tI v1), (4, .v (.c (.p 1 0))), (5, tI v4), (71, tB v7)], [(0, .var 26 [.d false (.l (a0.Cells.map eTCell))]), (1, .var 102 [.d false (.i .i64 x2.Area), .d false (.l (x2.Neighbors.map eI))])], 2⟩ ?_ ?_
        · have H := Hj
          refine wk ?_
          refine g2 rfl rfl rfl (fun h => ?_) (fun h => ?_)
          · have H := bt h H
            refine wk ?_
            cases H
            exact weak_of ⟨rfl, rfl, rfl, rfl, rfl, rfl, rfl, rfl, rfl, rfl, trivial⟩ ⟨rfl, ⟨rfl, rfl⟩, rfl, ⟨rfl, rfl⟩, trivial⟩
          · have H := bf h H
            refine wk ?_
            refine g2 rfl rfl rfl (fun h => ?_) (fun h => ?_)
            · have H := bt h H
              refine wk ?_
              cases H
              exact weak_of ⟨rfl, rfl, rfl, rfl, rfl, rfl, rfl, rfl, rfl, rfl, trivial⟩ ⟨rfl, ⟨rfl, rfl⟩, rfl, ⟨rfl, rfl⟩, trivial⟩
            · have H := bf h H
              refine wk ?_
              refine g2 rfl rfl rfl (fun h => ?_) (fun h => ?_)
              · have H := bt h H
                refine wk ?_
                obtain ⟨x8, hx8, H⟩ := ob H
                refine awr_ng rfl rfl rfl rfl (xdT (enc := eI) hx8 (fun _ => rfl) rfl rfl rfl) ?_
                refine wk ?_
                refine g2 rfl rfl rfl (fun h => ?_) (fun h => ?_)
                · have H := bt h H
                  refine wk ?_
                  cases H
                  exact weak_of ⟨rfl, rfl, rfl, rfl, rfl, rfl, rfl, rfl, rfl, rfl, trivial⟩ ⟨rfl, ⟨rfl, rfl⟩, rfl, ⟨rfl, rfl⟩, trivial⟩
                · have H := bf h H
                  refine wk ?_
                  obtain ⟨x9, hx9, H⟩ := ob H
                  refine awr_ng rfl rfl rfl rfl (xdT (enc := eTCell) hx9 (fun _ => rfl) rfl rfl rfl) ?_
                  refine wk ?_
                  obtain ⟨r10, hr10, H⟩ := ob H
                  refine awr_ng rfl rfl rfl rfl (ca rfl rfl rfl (sl10Has_c hr10) trivial rfl rfl rfl rfl) ?_
                  refine wk ?_
                  cases H
                  exact weak_of ⟨rfl, rfl, rfl, rfl, rfl, rfl, rfl, rfl, rfl, rfl, trivial⟩ ⟨rfl, ⟨rfl, rfl⟩, rfl, ⟨rfl, rfl⟩, trivial⟩
              · have H := bf h H
                refine wk ?_
                obtain ⟨x11, hx11, H⟩ := ob H
                refine awr_ng rfl rfl rfl rfl (xdT (enc := eTCell) hx11 (fun _ => rfl) rfl rfl rfl) ?_
                refine wk ?_
                obtain ⟨r12, hr12, H⟩ := ob H
                refine awr_ng rfl rfl rfl rfl (ca rfl rfl rfl (sl10Has_c hr12) trivial rfl rfl rfl rfl) ?_
                refine wk ?_
                cases H
                exact weak_of ⟨rfl, rfl, rfl, rfl, rfl, rfl, rfl, rfl, rfl, rfl, trivial⟩ ⟨rfl, ⟨rfl, rfl⟩, rfl, ⟨rfl, rfl⟩, trivial⟩
        refine wk ?_
        refine awc_cond rfl (fun h => ?_) (fun h => ?_)
        · have H := bt h H
          refine wk ?_
          obtain ⟨r0, Hd, rfl⟩ := dnE H
          refine iq_r (fun hq => ?_)
          have H := Hd.trans (congrArg some hq)
          refine wk ?_
          obtain ⟨r0, Hd, rfl⟩ := dnE H
          refine iq_r (fun hq => ?_)
          have H := Hd.trans (congrArg some hq)
          refine wk ?_
          cases H
          exact fin_ret (.cons (.tmp rfl) .nil) rfl rfl rfl
        · have H := bf h H
          refine wk ?_
          cases H
          refine iq_n ?_
          exact weak_of ⟨rfl, rfl, rfl, rfl, rfl, rfl, rfl, rfl, trivial⟩ ⟨rfl, ⟨rfl, rfl⟩, rfl, ⟨rfl, rfl⟩, trivial⟩
      · have H := bf h H
        refine wk ?_
        obtain ⟨r0, Hd, rfl⟩ := dnE H
        refine iq_e (fun hq => ?_)
        have H := Hd.trans (congrArg some hq)
        refine wk ?_
        cases H
        refine iq_n ?_
        exact weak_of ⟨rfl, rfl, rfl, rfl, trivial⟩ ⟨rfl, ⟨rfl, rfl⟩, trivial⟩
  · have H := bf h H
    refine wk ?_
    obtain ⟨r0, Hd, rfl⟩ := dnE H
    refine iq_e (fun hq => ?_)
    have H := Hd.trans (congrArg some hq)
    refine wk ?_
    obtain ⟨r13, hr13, H⟩ := ob H
    refine awr_n rfl (ca rfl rfl rfl (sl1In_c hr13) trivial rfl rfl rfl rfl) ?_
    refine wk ?_
    cases H
    exact fin_ret (.cons (.tmp rfl) .nil) rfl rfl rfl
def sIsValidPool (a0 : TServerPool) : Option Bool :=
  Option.bind (sl1In a0.Size 1 6) fun r1 => Option.bind (bif r1 then (bif leB 0 a0.Size then (Option.bind (sl1In a0.UpMask 0 (WR ((bShl .i64 1 a0.Size) - 1))) fun r3 => some r3) else none) else (some false)) fun (v2 : Bool) => some v2
theorem sIsValidPool_c {a0 : TServerPool} {r : Bool} (H : sIsValidPool a0 = some r) : Fn Tryz.prog 27 [.agg (eTServerPool a0)] [.c (.d (.b r))] := by
  refine fn_in Tryz.func27 rfl (by kernel_rfl) Tryz.ntmps27 rfl rfl rfl ?_
  refine wkd ?_
  obtain ⟨r1, hr1, H⟩ := ob H
  refine dr_n rfl (ca rfl rfl rfl (sl1In_c hr1) trivial rfl rfl rfl rfl) ?_
  refine wkd ?_
  obtain ⟨v2, Hj, H⟩ := ob H
  refine dr_join ⟨[(2, tB v2)], [], 0⟩ ?_ ?_
  · have H := Hj
    refine wkd ?_
    refine dg2 rfl rfl rfl (fun h => ?_) (fun h => ?_)
    · have H := bt h H
      refine wkd ?_
      obtain ⟨h, H⟩ := rq H
      refine dr_ng rfl rfl rfl rfl (ishT h rfl rfl rfl rfl) ?_
      refine wkd ?_
      obtain ⟨r3, hr3, H⟩ := ob H
      refine dr_ng rfl rfl rfl rfl (ca rfl rfl rfl (sl1In_c hr3) trivial rfl rfl rfl rfl) ?_
      refine wkd ?_
      cases H
      exact weak_of ⟨rfl, rfl, trivial⟩ trivial
    · have H := bf h H
      refine wkd ?_
      cases H
      exact weak_of ⟨rfl, rfl, trivial⟩ trivial
  refine wkd ?_
  cases H
  exact fin_ret (.cons (.tmp rfl) .nil) rfl rfl rfl
def sIsValidKey (a0 : Int) : Option Bool :=
  Option.bind (sl1In a0 1 2147483646) fun r1 => some r1
theorem sIsValidKey_c {a0 : Int} {r : Bool} (H : sIsValidKey a0 = some r) : Fn Tryz.prog 78 [aI a0] [.c (.d (.b r))] := by
  refine fn_in Tryz.func78 rfl (by kernel_rfl) Tryz.ntmps78 rfl rfl rfl ?_
  refine wk ?_
  obtain ⟨r1, hr1, H⟩ := ob H
  refine awr_n rfl (ca rfl rfl rfl (sl1In_c hr1) trivial rfl rfl rfl rfl) ?_
  refine wk ?_
  cases H
  exact fin_ret (.cons (.tmp rfl) .nil) rfl rfl rfl
def sIsValidSubscriberID (a0 : TSubscriberID) : Option Bool :=
  Option.bind (sl1In a0.Network 0 3) fun r1 => Option.bind (bif r1 then (Option.bind (sl1In a0.Number 0 99) fun r3 => some r3) else (some false)) fun (v2 : Bool) => some v2
theorem sIsValidSubscriberID_c {a0 : TSubscriberID} {r : Bool} (H : sIsValidSubscriberID a0 = some r) : Fn Tryz.prog 86 [.agg (eTSubscriberID a0)] [.c (.d (.b r))] := by
  refine fn_in Tryz.func86 rfl (by kernel_rfl) Tryz.ntmps86 rfl rfl rfl ?_
  refine wk ?_
  obtain ⟨r1, hr1, H⟩ := ob H
  refine awr_n rfl (ca rfl rfl rfl (sl1In_c hr1) trivial rfl rfl rfl rfl) ?_
  refine wk ?_
  obtain ⟨v2, Hj, H⟩ := ob H
  refine awr_join ⟨[(2, tB v2)], [], 0⟩ ?_ ?_
  · have H := Hj
    refine wk ?_
    refine g2 rfl rfl rfl (fun h => ?_) (fun h => ?_)
    · have H := bt h H
      refine wk ?_
      obtain ⟨r3, hr3, H⟩ := ob H
      refine awr_ng rfl rfl rfl rfl (ca rfl rfl rfl (sl1In_c hr3) trivial rfl rfl rfl rfl) ?_
      refine wk ?_
      cases H
      exact weak_of ⟨rfl, rfl, trivial⟩ trivial
    · have H := bf h H
      refine wk ?_
      cases H
      exact weak_of ⟨rfl, rfl, trivial⟩ trivial
  refine wk ?_
  cases H
  exact fin_ret (.cons (.tmp rfl) .nil) rfl rfl rfl
def sIsValidUSIM (a0 : TUSIM) : Option Bool :=
  Option.bind (sIsValidSubscriberID a0.ID) fun r1 => Option.bind (bif r1 then (Option.bind (sIsValidKey a0.Key) fun r3 => bif r3 then (Option.bind (sl1In a0.LastSeq 0 999999) fun r4 => some r4) else (some false)) else (some false)) fun (v2 : Bool) => some v2
theorem sIsValidUSIM_c {a0 : TUSIM} {r : Bool} (H : sIsValidUSIM a0 = some r) : Fn Tryz.prog 79 [.agg (eTUSIM a0)] [.c (.d (.b r))] := by
  refine fn_in Tryz.func79 rfl (by kernel_rfl) Tryz.ntmps79 rfl rfl rfl ?_
  refine wk ?_
  obtain ⟨r1, hr1, H⟩ := ob H
  refine awr_n rfl (ca rfl rfl rfl (sIsValidSubscriberID_c hr1) trivial rfl rfl rfl rfl) ?_
  refine wk ?_
  obtain ⟨v2, Hj, H⟩ := ob H
  refine awr_join ⟨[(2, tB v2)], [], 0⟩ ?_ ?_
  · have H := Hj
    refine wk ?_
    refine g2 rfl rfl rfl (fun h => ?_) (fun h => ?_)
    · have H := bt h H
      refine wk ?_
      obtain ⟨r3, hr3, H⟩ := ob H
      refine awr_ng rfl rfl rfl rfl (ca rfl rfl rfl (sIsValidKey_c hr3) trivial rfl rfl rfl rfl) ?_
      refine wk ?_
      refine g2 rfl rfl rfl (fun h => ?_) (fun h => ?_)
      · have H := bt h H
        refine wk ?_
        obtain ⟨r4, hr4, H⟩ := ob H
        refine awr_ng rfl rfl rfl rfl (ca rfl rfl rfl (sl1In_c hr4) trivial rfl rfl rfl rfl) ?_
        refine wk ?_
        cases H
        exact weak_of ⟨rfl, rfl, trivial⟩ trivial
      · have H := bf h H
        refine wk ?_
        cases H
        exact weak_of ⟨rfl, rfl, trivial⟩ trivial
    · have H := bf h H
      refine wk ?_
      cases H
      exact weak_of ⟨rfl, rfl, trivial⟩ trivial
  refine wk ?_
  cases H
  exact fin_ret (.cons (.tmp rfl) .nil) rfl rfl rfl
def sIsValidReceiver_L2 (a0 : TReceiveWindow) : Int → Option (Step (Int) (Bool))
  | v9 => bif ltB v9 ((a0.Delivered.length : Nat) : Int) then (Option.bind (ix a0.Delivered v9) fun x10 => bif ltB 60 ((x10.Data.length : Nat) : Int) then (dn (some false)) else (some (.next (WR (v9 + 1))))) else (dn (Option.bind (bif eqB a0.Next (WR (((a0.Delivered.length : Nat) : Int) + 1)) then (bif leB ((a0.Delivered.length : Nat) : Int) 24 then (some (leB ((a0.Pending.length : Nat) : Int) 8)) else (some false)) else (some false)) fun (v11 : Bool) => some v11))
def sIsValidReceiver_L1 (a0 : TReceiveWindow) : Int → Option (Step (Int) (Bool))
  | v1 => bif ltB v1 ((a0.Pending.length : Nat) : Int) then (Option.bind (ix a0.Pending v1) fun x2 => Option.bind (sl1In x2.Seq (WR (a0.Next + 1)) (WR ((WR (a0.Next + 8)) - 1))) fun r3 => Option.bind (bif !r3 then (some true) else (bif ltB 0 v1 then (Option.bind (ix a0.Pending (WR (v1 - 1))) fun x5 => Option.bind (ix a0.Pending v1) fun x6 => bif leB x6.Seq x5.Seq then (some true) else (Option.bind (ix a0.Pending v1) fun x7 => some (ltB 60 ((x7.Data.length : Nat) : Int)))) else (Option.bind (ix a0.Pending v1) fun x8 => some (ltB 60 ((x8.Data.length : Nat) : Int))))) fun (v4 : Bool) => bif v4 then (dn (some false)) else (some (.next (WR (v1 + 1))))) else (dn (iter (sIsValidReceiver_L2 a0) FU 0))
def sIsValidReceiver (a0 : TReceiveWindow) : Option Bool :=
  iter (sIsValidReceiver_L1 a0) FU 0
theorem sIsValidReceiver_c {a0 : TReceiveWindow} {r : Bool} (H : sIsValidReceiver a0 = some r) : Fn Tryz.prog 80 [.agg (eTReceiveWindow a0)] [.c (.d (.b r))] := by
  refine fn_in Tryz.func80 rfl (by kernel_rfl) Tryz.ntmps80 rfl rfl rfl ?_
  refine wkd ?_
  refine awc_iter (fun (q : Int) => ⟨[(1, .v (.c (.p 0 0))), (3, tI q)], [(0, .var 50 [.d false (.i .i64 a0.Next), .d false (.l (a0.Pending.map eTNumberedPacket)), .d false (.l (a0.Delivered.map eTPayload))])], 1⟩) H (weak_of ⟨rfl, rfl, rfl, rfl, trivial⟩ ⟨rfl, ⟨rfl, rfl⟩, trivial⟩) ?_
  rintro v1 o H
  try dsimp only
  refine wkd ?_
  refine awc_cond rfl (fun h => ?_) (fun h => ?_)
  · have H := bt h H
    refine wkd ?_
    obtain ⟨x2, hx2, H⟩ := ob H
    refine dr_n rfl (xdT (enc := eTNumberedPacket) hx2 (fun _ => rfl) rfl rfl rfl) ?_
    refine wkd ?_
    obtain ⟨r3, hr3, H⟩ := ob H
    refine dr_n rfl (ca rfl rfl rfl (sl1In_c hr3) trivial rfl rfl rfl rfl) ?_
    refine wkd ?_
    obtain ⟨v4, Hj, H⟩ := ob H
    refine dr_join ⟨[(1, .v (.c (.p 0 0))), (3, tI v1), (56, tB v4)], [(0, .var 50 [.d false (.i .i64 a0.Next), .d false (.l (a0.Pending.map eTNumberedPacket)), .d false (.l (a0.Delivered.map eTPayload))])], 1⟩ ?_ ?_
    · have H := Hj
      refine wkd ?_
      refine dg2 rfl rfl rfl (fun h => ?_) (fun h => ?_)
      · have H := bt h H
        refine wkd ?_
        cases H
        exact weak_of ⟨rfl, rfl, rfl, rfl, rfl, rfl, trivial⟩ ⟨rfl, ⟨rfl, rfl⟩, trivial⟩
      · have H := bf h H
        refine wkd ?_
        refine dg2 rfl rfl rfl (fun h => ?_) (fun h => ?_)
        · have H := bt h H
          refine wkd ?_
          obtain ⟨x5, hx5, H⟩ := ob H
          refine dr_ng rfl rfl rfl rfl (xdT (enc := eTNumberedPacket) hx5 (fun _ => rfl) rfl rfl rfl) ?_
          refine wkd ?_
          obtain ⟨x6, hx6, H⟩ := ob H
          refine dr_ng rfl rfl rfl rfl (xdT (enc := eTNumberedPacket) hx6 (fun _ => rfl) rfl rfl rfl) ?_
          refine wkd ?_
          refine dg2 rfl rfl rfl (fun h => ?_) (fun h => ?_)
          · have H := bt h H
            refine wkd ?_
            cases H
            exact weak_of ⟨rfl, rfl, rfl, rfl, rfl, rfl, trivial⟩ ⟨rfl, ⟨rfl, rfl⟩, trivial⟩
          · have H := bf h H
            refine wkd ?_
            obtain ⟨x7, hx7, H⟩ := ob H
            refine dr_ng rfl rfl rfl rfl (xdT (enc := eTNumberedPacket) hx7 (fun _ => rfl) rfl rfl rfl) ?_
            refine wkd ?_
            cases H
            exact weak_of ⟨rfl, rfl, rfl, rfl, rfl, rfl, trivial⟩ ⟨rfl, ⟨rfl, rfl⟩, trivial⟩
        · have H := bf h H
          refine wkd ?_
          obtain ⟨x8, hx8, H⟩ := ob H
          refine dr_ng rfl rfl rfl rfl (xdT (enc := eTNumberedPacket) hx8 (fun _ => rfl) rfl rfl rfl) ?_
          refine wkd ?_
          cases H
          exact weak_of ⟨rfl, rfl, rfl, rfl, rfl, rfl, trivial⟩ ⟨rfl, ⟨rfl, rfl⟩, trivial⟩
    refine wkd ?_
    refine awc_cond rfl (fun h => ?_) (fun h => ?_)
    · have H := bt h H
      refine wkd ?_
      obtain ⟨r0, Hd, rfl⟩ := dnE H
      refine iq_r (fun hq => ?_)
      have H := Hd.trans (congrArg some hq)
      refine wkd ?_
      cases H
      exact fin_ret (.cons (.tmp rfl) .nil) rfl rfl rfl
    · have H := bf h H
      refine wkd ?_
      cases H
      refine iq_n ?_
      exact weak_of ⟨rfl, rfl, rfl, rfl, trivial⟩ ⟨rfl, ⟨rfl, rfl⟩, trivial⟩
  · have H := bf h H
    refine wkd ?_
    obtain ⟨r0, Hd, rfl⟩ := dnE H
    refine iq_e (fun hq => ?_)
    have H := Hd.trans (congrArg some hq)
    refine wkd ?_
    refine awc_iter (fun (q : Int) => ⟨[(1, .v (.c (.p 0 0))), (4, tI q)], [(0, .var 50 [.d false (.i .i64 a0.Next), .d false (.l (a0.Pending.map eTNumberedPacket)), .d false (.l (a0.Delivered.map eTPayload))])], 1⟩) H (weak_of ⟨rfl, rfl, rfl, rfl, trivial⟩ ⟨rfl, ⟨rfl, rfl⟩, trivial⟩) ?_
    rintro v9 o H
    try dsimp only
    refine wkd ?_
    refine awc_cond rfl (fun h => ?_) (fun h => ?_)
    · have H := bt h H
      refine wkd ?_
      obtain ⟨x10, hx10, H⟩ := ob H
      refine awr_n rfl (xdT (enc := eTPayload) hx10 (fun _ => rfl) rfl rfl rfl) ?_
      refine wkd ?_
      refine awc_cond rfl (fun h => ?_) (fun h => ?_)
      · have H := bt h H
        refine wkd ?_
        obtain ⟨r0, Hd, rfl⟩ := dnE H
        refine iq_r (fun hq => ?_)
        have H := Hd.trans (congrArg some hq)
        refine wkd ?_
        cases H
        exact fin_ret (.cons (.tmp rfl) .nil) rfl rfl rfl
      · have H := bf h H
        refine wkd ?_
        cases H
        refine iq_n ?_
        exact weak_of ⟨rfl, rfl, rfl, rfl, trivial⟩ ⟨rfl, ⟨rfl, rfl⟩, trivial⟩
    · have H := bf h H
      refine wkd ?_
      obtain ⟨r0, Hd, rfl⟩ := dnE H
      refine iq_e (fun hq => ?_)
      have H := Hd.trans (congrArg some hq)
      refine wkd ?_
      obtain ⟨v11, Hj, H⟩ := ob H
      refine awr_join ⟨[(2, tB v11)], [], 0⟩ ?_ ?_
      · have H := Hj
        refine wkd ?_
        refine g2 rfl rfl rfl (fun h => ?_) (fun h => ?_)
        · have H := bt h H
          refine wkd ?_
          refine g2 rfl rfl rfl (fun h => ?_) (fun h => ?_)
          · have H := bt h H
            refine wkd ?_
            cases H
            exact weak_of ⟨rfl, rfl, trivial⟩ trivial
          · have H := bf h H
            refine wkd ?_
            cases H
            exact weak_of ⟨rfl, rfl, trivial⟩ trivial
        · have H := bf h H
          refine wkd ?_
          cases H
          exact weak_of ⟨rfl, rfl, trivial⟩ trivial
      refine wkd ?_
      cases H
      exact fin_ret (.cons (.tmp rfl) .nil) rfl rfl rfl
def sIsValidDevice (a0 : TDevice) : Option Bool :=
  Option.bind (sl1In a0.State 2 3) fun r1 => Option.bind (bif r1 then (Option.bind (sIsValidKey a0.RootKey) fun r3 => some (!r3)) else (some false)) fun (v2 : Bool) => bif v2 then (some false) else (Option.bind (sIsValidUSIM a0.Card) fun r4 => Option.bind (bif r4 then (Option.bind (sl1In a0.State 0 3) fun r6 => bif r6 then (Option.bind (sl1In a0.Cell 0 5) fun r7 => bif r7 then (Option.bind (sl1In a0.Generation 0 999999) fun r8 => bif r8 then (Option.bind (sl1In a0.Epoch 0 999999) fun r9 => bif r9 then (Option.bind (sl1In a0.RootKey 0 2147483646) fun r10 => bif r10 then (Option.bind (sl1In a0.Wait 0 3) fun r11 => bif r11 then (Option.bind (sIsValidReceiver a0.Receiver) fun r12 => some r12) else (some false)) else (some false)) else (some false)) else (some false)) else (some false)) else (some false)) else (some false)) fun (v5 : Bool) => some v5)
theorem sIsValidDevice_c {a0 : TDevice} {r : Bool} (H : sIsValidDevice a0 = some r) : Fn Tryz.prog 57 [.agg (eTDevice a0)] [.c (.d (.b r))] := by
  refine fn_in Tryz.func57 rfl (by kernel_rfl) Tryz.ntmps57 rfl rfl rfl ?_
  refine wk ?_
  obtain ⟨r1, hr1, H⟩ := ob H
  refine awr_n rfl (ca rfl rfl rfl (sl1In_c hr1) trivial rfl rfl rfl rfl) ?_
  refine wk ?_
  obtain ⟨v2, Hj, H⟩ := ob H
  refine awr_join ⟨[(1, .v (.c (.p 0 0))), (11, tB v2)], [(0, .var 52 [.d false (.i .i64 a0.Card.ID.Network), .d false (.i .i64 a0.Card.ID.Number), .d false (.i .i64 a0.Card.Key), .d false (.i .i64 a0.Card.LastSeq), .d false (.i .i64 a0.State), .d false (.i .i64 a0.Cell), .d false (.i .i64 a0.Generation), .d false (.i .i64 a0.RootKey), .d false (.i .i64 a0.Epoch), .d false (.b a0.PathConfirmed), .d false (.i .i64 a0.Wait), .d false (.i .i64 a0.Receiver.Next), .d false (.l (a0.Receiver.Pending.map eTNumberedPacket)), .d false (.l (a0.Receiver.Delivered.map eTPayload))])], 1⟩ ?_ ?_
  · have H := Hj
    refine wk ?_
    refine g2 rfl rfl rfl (fun h => ?_) (fun h => ?_)
    · have H := bt h H
      refine wk ?_
      obtain ⟨r3, hr3, H⟩ := ob H
      refine awr_ng rfl rfl rfl rfl (ca rfl rfl rfl (sIsValidKey_c hr3) trivial rfl rfl rfl rfl) ?_
      refine wk ?_
      cases H
      exact weak_of ⟨rfl, rfl, rfl, rfl, trivial⟩ ⟨rfl, ⟨rfl, rfl⟩, trivial⟩
    · have H := bf h H
      refine wk ?_
      cases H
      exact weak_of ⟨rfl, rfl, rfl, rfl, trivial⟩ ⟨rfl, ⟨rfl, rfl⟩, trivial⟩
  refine wk ?_
  refine awc_cond rfl (fun h => ?_) (fun h => ?_)
  · have H := bt h H
    refine wk ?_
    cases H
    exact fin_ret (.cons (.tmp rfl) .nil) rfl rfl rfl
  · have H := bf h H
    refine wk ?_
    obtain ⟨r4, hr4, H⟩ := ob H
    refine awr_n rfl (ca rfl rfl rfl (sIsValidUSIM_c hr4) trivial rfl rfl rfl rfl) ?_
    refine wk ?_
    obtain ⟨v5, Hj, H⟩ := ob H
    refine awr_join ⟨[(2, tB v5)], [], 0⟩ ?_ ?_
    · have H := Hj
      refine wk ?_
      refine g2 rfl rfl rfl (fun h => ?_) (fun h => ?_)
      · have H := bt h H
        refine wk ?_
        obtain ⟨r6, hr6, H⟩ := ob H
        refine awr_ng rfl rfl rfl rfl (ca rfl rfl rfl (sl1In_c hr6) trivial rfl rfl rfl rfl) ?_
        refine wk ?_
        refine g2 rfl rfl rfl (fun h => ?_) (fun h => ?_)
        · have H := bt h H
          refine wk ?_
          obtain ⟨r7, hr7, H⟩ := ob H
          refine awr_ng rfl rfl rfl rfl (ca rfl rfl rfl (sl1In_c hr7) trivial rfl rfl rfl rfl) ?_
          refine wk ?_
          refine g2 rfl rfl rfl (fun h => ?_) (fun h => ?_)
          · have H := bt h H
            refine wk ?_
            obtain ⟨r8, hr8, H⟩ := ob H
            refine awr_ng rfl rfl rfl rfl (ca rfl rfl rfl (sl1In_c hr8) trivial rfl rfl rfl rfl) ?_
            refine wk ?_
            refine g2 rfl rfl rfl (fun h => ?_) (fun h => ?_)
            · have H := bt h H
              refine wk ?_
              obtain ⟨r9, hr9, H⟩ := ob H
              refine awr_ng rfl rfl rfl rfl (ca rfl rfl rfl (sl1In_c hr9) trivial rfl rfl rfl rfl) ?_
              refine wk ?_
              refine g2 rfl rfl rfl (fun h => ?_) (fun h => ?_)
              · have H := bt h H
                refine wk ?_
                obtain ⟨r10, hr10, H⟩ := ob H
                refine awr_ng rfl rfl rfl rfl (ca rfl rfl rfl (sl1In_c hr10) trivial rfl rfl rfl rfl) ?_
                refine wk ?_
                refine g2 rfl rfl rfl (fun h => ?_) (fun h => ?_)
                · have H := bt h H
                  refine wk ?_
                  obtain ⟨r11, hr11, H⟩ := ob H
                  refine awr_ng rfl rfl rfl rfl (ca rfl rfl rfl (sl1In_c hr11) trivial rfl rfl rfl rfl) ?_
                  refine wk ?_
                  refine g2 rfl rfl rfl (fun h => ?_) (fun h => ?_)
                  · have H := bt h H
                    refine wk ?_
                    obtain ⟨r12, hr12, H⟩ := ob H
                    refine awr_ng rfl rfl rfl rfl (ca rfl rfl rfl (sIsValidReceiver_c hr12) trivial rfl rfl rfl rfl) ?_
                    refine wk ?_
                    cases H
                    exact weak_of ⟨rfl, rfl, trivial⟩ trivial
                  · have H := bf h H
                    refine wk ?_
                    cases H
                    exact weak_of ⟨rfl, rfl, trivial⟩ trivial
                · have H := bf h H
                  refine wk ?_
                  cases H
                  exact weak_of ⟨rfl, rfl, trivial⟩ trivial
              · have H := bf h H
                refine wk ?_
                cases H
                exact weak_of ⟨rfl, rfl, trivial⟩ trivial
            · have H := bf h H
              refine wk ?_
              cases H
              exact weak_of ⟨rfl, rfl, trivial⟩ trivial
          · have H := bf h H
            refine wk ?_
            cases H
            exact weak_of ⟨rfl, rfl, trivial⟩ trivial
        · have H := bf h H
          refine wk ?_
          cases H
          exact weak_of ⟨rfl, rfl, trivial⟩ trivial
      · have H := bf h H
        refine wk ?_
        cases H
        exact weak_of ⟨rfl, rfl, trivial⟩ trivial
    refine wk ?_
    cases H
    exact fin_ret (.cons (.tmp rfl) .nil) rfl rfl rfl
def sIsValidSubscription_L1 (a0 : TSubscription) : Int → Option (Step (Int) (Bool))
  | v1 => bif ltB v1 ((a0.RoamingNetworks.length : Nat) : Int) then (Option.bind (ix a0.RoamingNetworks v1) fun x2 => Option.bind (sl1In x2 0 3) fun r3 => Option.bind (bif !r3 then (some true) else (bif ltB 0 v1 then (Option.bind (ix a0.RoamingNetworks (WR (v1 - 1))) fun x5 => Option.bind (ix a0.RoamingNetworks v1) fun x6 => some (leB x6 x5)) else (some false))) fun (v4 : Bool) => bif v4 then (dn (some false)) else (some (.next (WR (v1 + 1))))) else (dn (Option.bind (sl1In a0.RateLimit 1 1000) fun r7 => Option.bind (bif r7 then (Option.bind (sl1In a0.BestClass 1 4) fun r9 => bif r9 then (Option.bind (sl1In a0.GrantSize 1 100000) fun r10 => some r10) else (some false)) else (some false)) fun (v8 : Bool) => some v8))
def sIsValidSubscription (a0 : TSubscription) : Option Bool :=
  iter (sIsValidSubscription_L1 a0) FU 0
theorem sIsValidSubscription_c {a0 : TSubscription} {r : Bool} (H : sIsValidSubscription a0 = some r) : Fn Tryz.prog 30 [.agg (eTSubscription a0)] [.c (.d (.b r))] := by
  refine fn_in Tryz.func30 rfl (by kernel_rfl) Tryz.ntmps30 rfl rfl rfl ?_
  refine wkd ?_
  refine awc_iter (fun (q : Int) => ⟨[(1, .v (.c (.p 0 0))), (3, tI q)], [(0, .var 30 [.d false (.i .i64 a0.RateLimit), .d false (.i .i64 a0.BestClass), .d false (.i .i64 a0.GrantSize), .d false (.l (a0.RoamingNetworks.map eI))])], 1⟩) H (weak_of ⟨rfl, rfl, rfl, rfl, trivial⟩ ⟨rfl, ⟨rfl, rfl⟩, trivial⟩) ?_
  rintro v1 o H
  try dsimp only
  refine wkd ?_
  refine awc_cond rfl (fun h => ?_) (fun h => ?_)
  · have H := bt h H
    refine wkd ?_
    obtain ⟨x2, hx2, H⟩ := ob H
    refine dr_n rfl (xdT (enc := eI) hx2 (fun _ => rfl) rfl rfl rfl) ?_
    refine wkd ?_
    obtain ⟨r3, hr3, H⟩ := ob H
    refine dr_n rfl (ca rfl rfl rfl (sl1In_c hr3) trivial rfl rfl rfl rfl) ?_
    refine wkd ?_
    obtain ⟨v4, Hj, H⟩ := ob H
    refine dr_join ⟨[(1, .v (.c (.p 0 0))), (3, tI v1), (35, tB v4)], [(0, .var 30 [.d false (.i .i64 a0.RateLimit), .d false (.i .i64 a0.BestClass), .d false (.i .i64 a0.GrantSize), .d false (.l (a0.RoamingNetworks.map eI))])], 1⟩ ?_ ?_
    · have H := Hj
      refine wkd ?_
      refine dg2 rfl rfl rfl (fun h => ?_) (fun h => ?_)
      · have H := bt h H
        refine wkd ?_
        cases H
        exact weak_of ⟨rfl, rfl, rfl, rfl, rfl, rfl, trivial⟩ ⟨rfl, ⟨rfl, rfl⟩, trivial⟩
      · have H := bf h H
        refine wkd ?_
        refine dg2 rfl rfl rfl (fun h => ?_) (fun h => ?_)
        · have H := bt h H
          refine wkd ?_
          obtain ⟨x5, hx5, H⟩ := ob H
          refine dr_ng rfl rfl rfl rfl (xdT (enc := eI) hx5 (fun _ => rfl) rfl rfl rfl) ?_
          refine wkd ?_
          obtain ⟨x6, hx6, H⟩ := ob H
          refine dr_ng rfl rfl rfl rfl (xdT (enc := eI) hx6 (fun _ => rfl) rfl rfl rfl) ?_
          refine wkd ?_
          cases H
          exact weak_of ⟨rfl, rfl, rfl, rfl, rfl, rfl, trivial⟩ ⟨rfl, ⟨rfl, rfl⟩, trivial⟩
        · have H := bf h H
          refine wkd ?_
          cases H
          exact weak_of ⟨rfl, rfl, rfl, rfl, rfl, rfl, trivial⟩ ⟨rfl, ⟨rfl, rfl⟩, trivial⟩
    refine wkd ?_
    refine awc_cond rfl (fun h => ?_) (fun h => ?_)
    · have H := bt h H
      refine wkd ?_
      obtain ⟨r0, Hd, rfl⟩ := dnE H
      refine iq_r (fun hq => ?_)
      have H := Hd.trans (congrArg some hq)
      refine wkd ?_
      cases H
      exact fin_ret (.cons (.tmp rfl) .nil) rfl rfl rfl
    · have H := bf h H
      refine wkd ?_
      cases H
      refine iq_n ?_
      exact weak_of ⟨rfl, rfl, rfl, rfl, trivial⟩ ⟨rfl, ⟨rfl, rfl⟩, trivial⟩
  · have H := bf h H
    refine wkd ?_
    obtain ⟨r0, Hd, rfl⟩ := dnE H
    refine iq_e (fun hq => ?_)
    have H := Hd.trans (congrArg some hq)
    refine wkd ?_
    obtain ⟨r7, hr7, H⟩ := ob H
    refine awr_n rfl (ca rfl rfl rfl (sl1In_c hr7) trivial rfl rfl rfl rfl) ?_
    refine wkd ?_
    obtain ⟨v8, Hj, H⟩ := ob H
    refine awr_join ⟨[(2, tB v8)], [], 0⟩ ?_ ?_
    · have H := Hj
      refine wkd ?_
      refine g2 rfl rfl rfl (fun h => ?_) (fun h => ?_)
      · have H := bt h H
        refine wkd ?_
        obtain ⟨r9, hr9, H⟩ := ob H
        refine awr_ng rfl rfl rfl rfl (ca rfl rfl rfl (sl1In_c hr9) trivial rfl rfl rfl rfl) ?_
        refine wkd ?_
        refine g2 rfl rfl rfl (fun h => ?_) (fun h => ?_)
        · have H := bt h H
          refine wkd ?_
          obtain ⟨r10, hr10, H⟩ := ob H
          refine awr_ng rfl rfl rfl rfl (ca rfl rfl rfl (sl1In_c hr10) trivial rfl rfl rfl rfl) ?_
          refine wkd ?_
          cases H
          exact weak_of ⟨rfl, rfl, trivial⟩ trivial
        · have H := bf h H
          refine wkd ?_
          cases H
          exact weak_of ⟨rfl, rfl, trivial⟩ trivial
      · have H := bf h H
        refine wkd ?_
        cases H
        exact weak_of ⟨rfl, rfl, trivial⟩ trivial
    refine wkd ?_
    cases H
    exact fin_ret (.cons (.tmp rfl) .nil) rfl rfl rfl
def sIsValidSubscriberRecord (a0 : TSubscriberRecord) : Option Bool :=
  Option.bind (sIsValidSubscriberID a0.ID) fun r1 => Option.bind (bif r1 then (Option.bind (sIsValidKey a0.Key) fun r3 => bif r3 then (Option.bind (sl1In a0.Seq 0 999999) fun r4 => some r4) else (some false)) else (some false)) fun (v2 : Bool) => some v2
theorem sIsValidSubscriberRecord_c {a0 : TSubscriberRecord} {r : Bool} (H : sIsValidSubscriberRecord a0 = some r) : Fn Tryz.prog 61 [.agg (eTSubscriberRecord a0)] [.c (.d (.b r))] := by
  refine fn_in Tryz.func61 rfl (by kernel_rfl) Tryz.ntmps61 rfl rfl rfl ?_
  refine wk ?_
  obtain ⟨r1, hr1, H⟩ := ob H
  refine awr_n rfl (ca rfl rfl rfl (sIsValidSubscriberID_c hr1) trivial rfl rfl rfl rfl) ?_
  refine wk ?_
  obtain ⟨v2, Hj, H⟩ := ob H
  refine awr_join ⟨[(2, tB v2)], [], 0⟩ ?_ ?_
  · have H := Hj
    refine wk ?_
    refine g2 rfl rfl rfl (fun h => ?_) (fun h => ?_)
    · have H := bt h H
      refine wk ?_
      obtain ⟨r3, hr3, H⟩ := ob H
      refine awr_ng rfl rfl rfl rfl (ca rfl rfl rfl (sIsValidKey_c hr3) trivial rfl rfl rfl rfl) ?_
      refine wk ?_
      refine g2 rfl rfl rfl (fun h => ?_) (fun h => ?_)
      · have H := bt h H
        refine wk ?_
        obtain ⟨r4, hr4, H⟩ := ob H
        refine awr_ng rfl rfl rfl rfl (ca rfl rfl rfl (sl1In_c hr4) trivial rfl rfl rfl rfl) ?_
        refine wk ?_
        cases H
        exact weak_of ⟨rfl, rfl, trivial⟩ trivial
      · have H := bf h H
        refine wk ?_
        cases H
        exact weak_of ⟨rfl, rfl, trivial⟩ trivial
    · have H := bf h H
      refine wk ?_
      cases H
      exact weak_of ⟨rfl, rfl, trivial⟩ trivial
  refine wk ?_
  cases H
  exact fin_ret (.cons (.tmp rfl) .nil) rfl rfl rfl
def sIsValidPaging (a0 : TPagingState) : Option Bool :=
  Option.bind (sl1In a0.Area 0 2) fun r1 => Option.bind (bif r1 then (Option.bind (sl1In a0.Attempt 0 4) fun r3 => bif r3 then (Option.bind (sl1In a0.Wait 0 3) fun r4 => some r4) else (some false)) else (some false)) fun (v2 : Bool) => some v2
theorem sIsValidPaging_c {a0 : TPagingState} {r : Bool} (H : sIsValidPaging a0 = some r) : Fn Tryz.prog 81 [.agg (eTPagingState a0)] [.c (.d (.b r))] := by
  refine fn_in Tryz.func81 rfl (by kernel_rfl) Tryz.ntmps81 rfl rfl rfl ?_
  refine wk ?_
  obtain ⟨r1, hr1, H⟩ := ob H
  refine awr_n rfl (ca rfl rfl rfl (sl1In_c hr1) trivial rfl rfl rfl rfl) ?_
  refine wk ?_
  obtain ⟨v2, Hj, H⟩ := ob H
  refine awr_join ⟨[(2, tB v2)], [], 0⟩ ?_ ?_
  · have H := Hj
    refine wk ?_
    refine g2 rfl rfl rfl (fun h => ?_) (fun h => ?_)
    · have H := bt h H
      refine wk ?_
      obtain ⟨r3, hr3, H⟩ := ob H
      refine awr_ng rfl rfl rfl rfl (ca rfl rfl rfl (sl1In_c hr3) trivial rfl rfl rfl rfl) ?_
      refine wk ?_
      refine g2 rfl rfl rfl (fun h => ?_) (fun h => ?_)
      · have H := bt h H
        refine wk ?_
        obtain ⟨r4, hr4, H⟩ := ob H
        refine awr_ng rfl rfl rfl rfl (ca rfl rfl rfl (sl1In_c hr4) trivial rfl rfl rfl rfl) ?_
        refine wk ?_
        cases H
        exact weak_of ⟨rfl, rfl, trivial⟩ trivial
      · have H := bf h H
        refine wk ?_
        cases H
        exact weak_of ⟨rfl, rfl, trivial⟩ trivial
    · have H := bf h H
      refine wk ?_
      cases H
      exact weak_of ⟨rfl, rfl, trivial⟩ trivial
  refine wk ?_
  cases H
  exact fin_ret (.cons (.tmp rfl) .nil) rfl rfl rfl
def sIsValidQuota (a0 : TQuota) : Option Bool :=
  Option.bind (bif leB 0 a0.SessionID then (Option.bind (sl1In a0.Granted 0 100000) fun r2 => bif r2 then (Option.bind (sl1In a0.Used 0 a0.Granted) fun r3 => some r3) else (some false)) else (some false)) fun (v1 : Bool) => some v1
theorem sIsValidQuota_c {a0 : TQuota} {r : Bool} (H : sIsValidQuota a0 = some r) : Fn Tryz.prog 82 [.agg (eTQuota a0)] [.c (.d (.b r))] := by
  refine fn_in Tryz.func82 rfl (by kernel_rfl) Tryz.ntmps82 rfl rfl rfl ?_
  refine wk ?_
  obtain ⟨v1, Hj, H⟩ := ob H
  refine awr_join ⟨[(2, tB v1)], [], 0⟩ ?_ ?_
  · have H := Hj
    refine wk ?_
    refine g2 rfl rfl rfl (fun h => ?_) (fun h => ?_)
    · have H := bt h H
      refine wk ?_
      obtain ⟨r2, hr2, H⟩ := ob H
      refine awr_ng rfl rfl rfl rfl (ca rfl rfl rfl (sl1In_c hr2) trivial rfl rfl rfl rfl) ?_
      refine wk ?_
      refine g2 rfl rfl rfl (fun h => ?_) (fun h => ?_)
      · have H := bt h H
        refine wk ?_
        obtain ⟨r3, hr3, H⟩ := ob H
        refine awr_ng rfl rfl rfl rfl (ca rfl rfl rfl (sl1In_c hr3) trivial rfl rfl rfl rfl) ?_
        refine wk ?_
        cases H
        exact weak_of ⟨rfl, rfl, trivial⟩ trivial
      · have H := bf h H
        refine wk ?_
        cases H
        exact weak_of ⟨rfl, rfl, trivial⟩ trivial
    · have H := bf h H
      refine wk ?_
      cases H
      exact weak_of ⟨rfl, rfl, trivial⟩ trivial
  refine wk ?_
  cases H
  exact fin_ret (.cons (.tmp rfl) .nil) rfl rfl rfl
def sIsValidSender_L1 (a0 : TSendWindow) : Int → Option (Step (Int) (Bool))
  | v1 => bif ltB v1 ((a0.Unacked.length : Nat) : Int) then (Option.bind (ix a0.Unacked v1) fun x2 => Option.bind (bif !eqB x2.Seq (WR ((WR (a0.Next - ((a0.Unacked.length : Nat) : Int))) + v1)) then (some true) else (Option.bind (ix a0.Unacked v1) fun x4 => some (ltB 60 ((x4.Data.length : Nat) : Int)))) fun (v3 : Bool) => bif v3 then (dn (some false)) else (some (.next (WR (v1 + 1))))) else (dn (Option.bind (sl1In a0.Next 1 100000) fun r5 => Option.bind (bif r5 then (bif leB ((a0.Unacked.length : Nat) : Int) 8 then (some (leB 1 (WR (a0.Next - ((a0.Unacked.length : Nat) : Int))))) else (some false)) else (some false)) fun (v6 : Bool) => some v6))
def sIsValidSender (a0 : TSendWindow) : Option Bool :=
  iter (sIsValidSender_L1 a0) FU 0
theorem sIsValidSender_c {a0 : TSendWindow} {r : Bool} (H : sIsValidSender a0 = some r) : Fn Tryz.prog 100 [.agg (eTSendWindow a0)] [.c (.d (.b r))] := by
  refine fn_in Tryz.func100 rfl (by kernel_rfl) Tryz.ntmps100 rfl rfl rfl ?_
  refine wkd ?_
  refine awc_iter (fun (q : Int) => ⟨[(1, .v (.c (.p 0 0))), (3, tI q)], [(0, .var 61 [.d false (.i .i64 a0.Next), .d false (.l (a0.Unacked.map eTNumberedPacket))])], 1⟩) H (weak_of ⟨rfl, rfl, rfl, rfl, trivial⟩ ⟨rfl, ⟨rfl, rfl⟩, trivial⟩) ?_
  rintro v1 o H
  try dsimp only
  refine wkd ?_
  refine awc_cond rfl (fun h => ?_) (fun h => ?_)
  · have H := bt h H
    refine wkd ?_
    obtain ⟨x2, hx2, H⟩ := ob H
    refine dr_n rfl (xdT (enc := eTNumberedPacket) hx2 (fun _ => rfl) rfl rfl rfl) ?_
    refine wkd ?_
    obtain ⟨v3, Hj, H⟩ := ob H
    refine dr_join ⟨[(1, .v (.c (.p 0 0))), (3, tI v1), (35, tB v3)], [(0, .var 61 [.d false (.i .i64 a0.Next), .d false (.l (a0.Unacked.map eTNumberedPacket))])], 1⟩ ?_ ?_
    · have H := Hj
      refine wkd ?_
      refine dg2 rfl rfl rfl (fun h => ?_) (fun h => ?_)
      · have H := bt h H
        refine wkd ?_
        cases H
        exact weak_of ⟨rfl, rfl, rfl, rfl, rfl, rfl, trivial⟩ ⟨rfl, ⟨rfl, rfl⟩, trivial⟩
      · have H := bf h H
        refine wkd ?_
        obtain ⟨x4, hx4, H⟩ := ob H
        refine dr_ng rfl rfl rfl rfl (xdT (enc := eTNumberedPacket) hx4 (fun _ => rfl) rfl rfl rfl) ?_
        refine wkd ?_
        cases H
        exact weak_of ⟨rfl, rfl, rfl, rfl, rfl, rfl, trivial⟩ ⟨rfl, ⟨rfl, rfl⟩, trivial⟩
    refine wkd ?_
    refine awc_cond rfl (fun h => ?_) (fun h => ?_)
    · have H := bt h H
      refine wkd ?_
      obtain ⟨r0, Hd, rfl⟩ := dnE H
      refine iq_r (fun hq => ?_)
      have H := Hd.trans (congrArg some hq)
      refine wkd ?_
      cases H
      exact fin_ret (.cons (.tmp rfl) .nil) rfl rfl rfl
    · have H := bf h H
      refine wkd ?_
      cases H
      refine iq_n ?_
      exact weak_of ⟨rfl, rfl, rfl, rfl, trivial⟩ ⟨rfl, ⟨rfl, rfl⟩, trivial⟩
  · have H := bf h H
    refine wkd ?_
    obtain ⟨r0, Hd, rfl⟩ := dnE H
    refine iq_e (fun hq => ?_)
    have H := Hd.trans (congrArg some hq)
    refine wkd ?_
    obtain ⟨r5, hr5, H⟩ := ob H
    refine awr_n rfl (ca rfl rfl rfl (sl1In_c hr5) trivial rfl rfl rfl rfl) ?_
    refine wkd ?_
    obtain ⟨v6, Hj, H⟩ := ob H
    refine awr_join ⟨[(2, tB v6)], [], 0⟩ ?_ ?_
    · have H := Hj
      refine wkd ?_
      refine g2 rfl rfl rfl (fun h => ?_) (fun h => ?_)
      · have H := bt h H
        refine wkd ?_
        refine g2 rfl rfl rfl (fun h => ?_) (fun h => ?_)
        · have H := bt h H
          refine wkd ?_
          cases H
          exact weak_of ⟨rfl, rfl, trivial⟩ trivial
        · have H := bf h H
          refine wkd ?_
          cases H
          exact weak_of ⟨rfl, rfl, trivial⟩ trivial
      · have H := bf h H
        refine wkd ?_
        cases H
        exact weak_of ⟨rfl, rfl, trivial⟩ trivial
    refine wkd ?_
    cases H
    exact fin_ret (.cons (.tmp rfl) .nil) rfl rfl rfl
def sEqualBytes (a0 : List Int) (a1 : List Int) : Option Bool :=
  some (strB (bsOf a0) (bsOf a1))
theorem sEqualBytes_c {a0 : List Int} {a1 : List Int} {r : Bool} (H : sEqualBytes a0 a1 = some r) : Fn Tryz.prog 101 [aL (a0.map eU8), aL (a1.map eU8)] [.c (.d (.b r))] := by
  refine fn_in Tryz.func101 rfl (by kernel_rfl) Tryz.ntmps101 rfl rfl rfl ?_
  refine wk ?_
  cases H
  exact fin_ret (.cons (.tmp rfl) .nil) rfl rfl rfl
def sl30Bytes_L1 (a0 : List TNumberedPacket) : (Int × Int) → Option (Step (Int × Int) (Int))
  | (v1, v2) => bif ltB v2 ((a0.length : Nat) : Int) then (Option.bind (ix a0 v2) fun x5 => some (.next (WR (v1 + ((x5.Data.length : Nat) : Int)), WR (v2 + 1)))) else (some (.done v1))
def sl30Bytes (a0 : List TNumberedPacket) : Option Int :=
  Option.bind (iter (sl30Bytes_L1 a0) FU (0, 0)) fun (v4 : Int) => some v4
theorem sl30Bytes_c {a0 : List TNumberedPacket} {r : Int} (H : sl30Bytes a0 = some r) : Fn Tryz.prog 102 [aL (a0.map eTNumberedPacket)] [.c (.d (.i .i64 r))] := by
  refine fn_in Tryz.func102 rfl (by kernel_rfl) Tryz.ntmps102 rfl rfl rfl ?_
  refine wk ?_
  obtain ⟨v4, Hj, H⟩ := ob H
  refine awc_jblk ⟨[(3, tI v4)], [], 0⟩ ?_ ?_
  · refine wk ?_
    refine awc_iter (fun (q : Int × Int) => ⟨[(0, .v (.c (.d false (.l (a0.map eTNumberedPacket))))), (3, tI q.1), (4, tI q.2)], [], 0⟩) Hj (weak_of ⟨rfl, rfl, rfl, rfl, rfl, rfl, trivial⟩ trivial) ?_
    rintro ⟨v1, v2⟩ o H
    try dsimp only
    refine wk ?_
    refine awc_cond rfl (fun h => ?_) (fun h => ?_)
    · have H := bt h H
      refine wk ?_
      obtain ⟨x5, hx5, H⟩ := ob H
      refine awr_n rfl (xdT (enc := eTNumberedPacket) hx5 (fun _ => rfl) rfl rfl rfl) ?_
      refine wk ?_
      cases H
      refine iq_n ?_
      exact weak_of ⟨rfl, rfl, rfl, rfl, rfl, rfl, trivial⟩ trivial
    · have H := bf h H
      refine wk ?_
      cases H
      refine iq_e (fun hq => ?_)
      cases hq
      refine wk ?_
      exact weak_of ⟨rfl, rfl, trivial⟩ trivial
  refine wk ?_
  cases H
  exact fin_ret (.cons (.tmp rfl) .nil) rfl rfl rfl
def sRemainingQuota (a0 : TQuota) : Option Int :=
  Option.bind (sIsValidQuota a0) fun r1 => bif !r1 then (some 0) else (some (WR (a0.Granted - a0.Used)))
theorem sRemainingQuota_c {a0 : TQuota} {r : Int} (H : sRemainingQuota a0 = some r) : Fn Tryz.prog 103 [.agg (eTQuota a0)] [.c (.d (.i .i64 r))] := by
  refine fn_in Tryz.func103 rfl (by kernel_rfl) Tryz.ntmps103 rfl rfl rfl ?_
  refine wk ?_
  obtain ⟨r1, hr1, H⟩ := ob H
  refine awr_n rfl (ca rfl rfl rfl (sIsValidQuota_c hr1) trivial rfl rfl rfl rfl) ?_
  refine wk ?_
  refine awc_cond rfl (fun h => ?_) (fun h => ?_)
  · have H := bt h H
    refine wk ?_
    cases H
    exact fin_ret (.cons (.tmp rfl) .nil) rfl rfl rfl
  · have H := bf h H
    refine wk ?_
    cases H
    exact fin_ret (.cons (.tmp rfl) .nil) rfl rfl rfl
def sl30Stream_L2 (a0 : TSession) : Int → Option (Step (Int) (Bool))
  | v5 => bif ltB v5 ((a0.Window.Unacked.length : Nat) : Int) then (Option.bind (ix a0.Window.Unacked v5) fun x6 => Option.bind (ix a0.Submitted (WR (x6.Seq - 1))) fun x7 => Option.bind (sEqualBytes x6.Data x7.Data) fun r8 => bif !r8 then (dn (some false)) else (some (.next (WR (v5 + 1))))) else (dn (Option.bind (sl30Bytes a0.Window.Unacked) fun r9 => Option.bind (sRemainingQuota a0.Usage) fun r10 => some (leB r9 r10)))
def sl30Stream_L1 (a0 : TSession) : Int → Option (Step (Int) (Bool))
  | v1 => bif ltB v1 ((a0.Submitted.length : Nat) : Int) then (Option.bind (ix a0.Submitted v1) fun x2 => bif ltB 60 ((x2.Data.length : Nat) : Int) then (dn (some false)) else (some (.next (WR (v1 + 1))))) else (dn (Option.bind (bif ltB 24 ((a0.Submitted.length : Nat) : Int) then (some true) else (Option.bind (sIsValidSender a0.Window) fun r4 => bif !r4 then (some true) else (some (ltB (WR (((a0.Submitted.length : Nat) : Int) + 1)) a0.Window.Next)))) fun (v3 : Bool) => bif v3 then (some false) else (iter (sl30Stream_L2 a0) FU 0)))
def sl30Stream (a0 : TSession) : Option Bool :=
  iter (sl30Stream_L1 a0) FU 0
theorem sl30Stream_c {a0 : TSession} {r : Bool} (H : sl30Stream a0 = some r) : Fn Tryz.prog 83 [.agg (eTSession a0)] [.c (.d (.b r))] := by
  refine fn_in Tryz.func83 rfl (by kernel_rfl) Tryz.ntmps83 rfl rfl rfl ?_
  refine wkd ?_
  refine awc_iter (fun (q : Int) => ⟨[(1, .v (.c (.p 0 0))), (3, tI q)], [(0, .var 65 [.d false (.i .i64 a0.Record.ID.Network), .d false (.i .i64 a0.Record.ID.Number), .d false (.i .i64 a0.Record.Key), .d false (.i .i64 a0.Record.Seq), .d false (.i .i64 a0.Plan.RateLimit), .d false (.i .i64 a0.Plan.BestClass), .d false (.i .i64 a0.Plan.GrantSize), .d false (.l (a0.Plan.RoamingNetworks.map eI)), .d false (.i .i64 a0.State), .d false (.i .i64 a0.Pending.Rand), .d false (.i .i64 a0.Pending.Autn), .d false (.i .i64 a0.Pending.MAC), .d false (.i .i64 a0.Pending.Res), .d false (.i .i64 a0.Pending.Key), .d false (.i .i64 a0.PendingSeq), .d false (.i .i64 a0.Generation), .d false (.i .i64 a0.RootKey), .d false (.i .i64 a0.Epoch), .d false (.i .i64 a0.Cell), .d false (.i .i64 a0.Quiet), .d false (.i .i64 a0.Page.Area), .d false (.i .i64 a0.Page.Attempt), .d false (.i .i64 a0.Page.Wait), .d false (.l (a0.Submitted.map eTPayload)), .d false (.i .i64 a0.Window.Next), .d false (.l (a0.Window.Unacked.map eTNumberedPacket)), .d false (.i .i64 a0.Retry), .d false (.i .i64 a0.Usage.SessionID), .d false (.i .i64 a0.Usage.Granted), .d false (.i .i64 a0.Usage.Used)])], 1⟩) H (weak_of ⟨rfl, rfl, rfl, rfl, trivial⟩ ⟨rfl, ⟨rfl, rfl⟩, trivial⟩) ?_
  rintro v1 o H
  try dsimp only
  refine wkd ?_
  refine awc_cond rfl (fun h => ?_) (fun h => ?_)
  · have H := bt h H
    refine wkd ?_
    obtain ⟨x2, hx2, H⟩ := ob H
    refine awr_n rfl (xdT (enc := eTPayload) hx2 (fun _ => rfl) rfl rfl rfl) ?_
    refine wkd ?_
    refine awc_cond rfl (fun h => ?_) (fun h => ?_)
    · have H := bt h H
      refine wkd ?_
      obtain ⟨r0, Hd, rfl⟩ := dnE H
      refine iq_r (fun hq => ?_)
      have H := Hd.trans (congrArg some hq)
      refine wkd ?_
      cases H
      exact fin_ret (.cons (.tmp rfl) .nil) rfl rfl rfl
    · have H := bf h H
      refine wkd ?_
      cases H
      refine iq_n ?_
      exact weak_of ⟨rfl, rfl, rfl, rfl, trivial⟩ ⟨rfl, ⟨rfl, rfl⟩, trivial⟩
  · have H := bf h H
    refine wkd ?_
    obtain ⟨r0, Hd, rfl⟩ := dnE H
    refine iq_e (fun hq => ?_)
    have H := Hd.trans (congrArg some hq)
    refine wkd ?_
    obtain ⟨v3, Hj, H⟩ := ob H
    refine awr_join ⟨[(1, .v (.c (.p 0 0))), (40, tB v3)], [(0, .var 65 [.d false (.i .i64 a0.Record.ID.Network), .d false (.i .i64 a0.Record.ID.Number), .d false (.i .i64 a0.Record.Key), .d false (.i .i64 a0.Record.Seq), .d false (.i .i64 a0.Plan.RateLimit), .d false (.i .i64 a0.Plan.BestClass), .d false (.i .i64 a0.Plan.GrantSize), .d false (.l (a0.Plan.RoamingNetworks.map eI)), .d false (.i .i64 a0.State), .d false (.i .i64 a0.Pending.Rand), .d false (.i .i64 a0.Pending.Autn), .d false (.i .i64 a0.Pending.MAC), .d false (.i .i64 a0.Pending.Res), .d false (.i .i64 a0.Pending.Key), .d false (.i .i64 a0.PendingSeq), .d false (.i .i64 a0.Generation), .d false (.i .i64 a0.RootKey), .d false (.i .i64 a0.Epoch), .d false (.i .i64 a0.Cell), .d false (.i .i64 a0.Quiet), .d false (.i .i64 a0.Page.Area), .d false (.i .i64 a0.Page.Attempt), .d false (.i .i64 a0.Page.Wait), .d false (.l (a0.Submitted.map eTPayload)), .d false (.i .i64 a0.Window.Next), .d false (.l (a0.Window.Unacked.map eTNumberedPacket)), .d false (.i .i64 a0.Retry), .d false (.i .i64 a0.Usage.SessionID), .d false (.i .i64 a0.Usage.Granted), .d false (.i .i64 a0.Usage.Used)])], 1⟩ ?_ ?_
    · have H := Hj
      refine wkd ?_
      refine g2 rfl rfl rfl (fun h => ?_) (fun h => ?_)
      · have H := bt h H
        refine wkd ?_
        cases H
        exact weak_of ⟨rfl, rfl, rfl, rfl, trivial⟩ ⟨rfl, ⟨rfl, rfl⟩, trivial⟩
      · have H := bf h H
        refine wkd ?_
        obtain ⟨r4, hr4, H⟩ := ob H
        refine awr_ng rfl rfl rfl rfl (ca rfl rfl rfl (sIsValidSender_c hr4) trivial rfl rfl rfl rfl) ?_
        refine wkd ?_
        refine g2 rfl rfl rfl (fun h => ?_) (fun h => ?_)
        · have H := bt h H
          refine wkd ?_
          cases H
          exact weak_of ⟨rfl, rfl, rfl, rfl, trivial⟩ ⟨rfl, ⟨rfl, rfl⟩, trivial⟩
        · have H := bf h H
          refine wkd ?_
          cases H
          exact weak_of ⟨rfl, rfl, rfl, rfl, trivial⟩ ⟨rfl, ⟨rfl, rfl⟩, trivial⟩
    refine wkd ?_
    refine awc_cond rfl (fun h => ?_) (fun h => ?_)
    · have H := bt h H
      refine wkd ?_
      cases H
      exact fin_ret (.cons (.tmp rfl) .nil) rfl rfl rfl
    · have H := bf h H
      refine wkd ?_
      refine awc_iter (fun (q : Int) => ⟨[(1, .v (.c (.p 0 0))), (4, tI q)], [(0, .var 65 [.d false (.i .i64 a0.Record.ID.Network), .d false (.i .i64 a0.Record.ID.Number), .d false (.i .i64 a0.Record.Key), .d false (.i .i64 a0.Record.Seq), .d false (.i .i64 a0.Plan.RateLimit), .d false (.i .i64 a0.Plan.BestClass), .d false (.i .i64 a0.Plan.GrantSize), .d false (.l (a0.Plan.RoamingNetworks.map eI)), .d false (.i .i64 a0.State), .d false (.i .i64 a0.Pending.Rand), .d false (.i .i64 a0.Pending.Autn), .d false (.i .i64 a0.Pending.MAC), .d false (.i .i64 a0.Pending.Res), .d false (.i .i64 a0.Pending.Key), .d false (.i .i64 a0.PendingSeq), .d false (.i .i64 a0.Generation), .d false (.i .i64 a0.RootKey), .d false (.i .i64 a0.Epoch), .d false (.i .i64 a0.Cell), .d false (.i .i64 a0.Quiet), .d false (.i .i64 a0.Page.Area), .d false (.i .i64 a0.Page.Attempt), .d false (.i .i64 a0.Page.Wait), .d false (.l (a0.Submitted.map eTPayload)), .d false (.i .i64 a0.Window.Next), .d false (.l (a0.Window.Unacked.map eTNumberedPacket)), .d false (.i .i64 a0.Retry), .d false (.i .i64 a0.Usage.SessionID), .d false (.i .i64 a0.Usage.Granted), .d false (.i .i64 a0.Usage.Used)])], 1⟩) H (weak_of ⟨rfl, rfl, rfl, rfl, trivial⟩ ⟨rfl, ⟨rfl, rfl⟩, trivial⟩) ?_
      rintro v5 o H
      try dsimp only
      refine wkd ?_
      refine awc_cond rfl (fun h => ?_) (fun h => ?_)
      · have H := bt h H
        refine wkd ?_
        obtain ⟨x6, hx6, H⟩ := ob H
        refine awr_n rfl (xdT (enc := eTNumberedPacket) hx6 (fun _ => rfl) rfl rfl rfl) ?_
        refine wkd ?_
        obtain ⟨x7, hx7, H⟩ := ob H
        refine dr_n rfl (xdT (enc := eTPayload) hx7 (fun _ => rfl) rfl rfl rfl) ?_
        refine wkd ?_
        obtain ⟨r8, hr8, H⟩ := ob H
        refine dr_n rfl (ca rfl rfl rfl (sEqualBytes_c hr8) trivial rfl rfl rfl rfl) ?_
        refine wkd ?_
        refine awc_cond rfl (fun h => ?_) (fun h => ?_)
        · have H := bt h H
          refine wkd ?_
          obtain ⟨r0, Hd, rfl⟩ := dnE H
          refine iq_r (fun hq => ?_)
          have H := Hd.trans (congrArg some hq)
          refine wkd ?_
          cases H
          exact fin_ret (.cons (.tmp rfl) .nil) rfl rfl rfl
        · have H := bf h H
          refine wkd ?_
          cases H
          refine iq_n ?_
          exact weak_of ⟨rfl, rfl, rfl, rfl, trivial⟩ ⟨rfl, ⟨rfl, rfl⟩, trivial⟩
      · have H := bf h H
        refine wkd ?_
        obtain ⟨r0, Hd, rfl⟩ := dnE H
        refine iq_e (fun hq => ?_)
        have H := Hd.trans (congrArg some hq)
        refine wkd ?_
        obtain ⟨r9, hr9, H⟩ := ob H
        refine dr_n rfl (ca rfl rfl rfl (sl30Bytes_c hr9) trivial rfl rfl rfl rfl) ?_
        refine wkd ?_
        obtain ⟨r10, hr10, H⟩ := ob H
        refine dr_n rfl (ca rfl rfl rfl (sRemainingQuota_c hr10) trivial rfl rfl rfl rfl) ?_
        refine wkd ?_
        cases H
        exact fin_ret (.cons (.tmp rfl) .nil) rfl rfl rfl
def sIsValidSession (a0 : TSession) : Option Bool :=
  Option.bind (bif eqB a0.State 1 then (Option.bind (sIsValidKey a0.RootKey) fun r2 => bif !r2 then (some true) else (bif ltB 0 a0.PendingSeq then (Option.bind (sIsValidKey a0.Pending.Key) fun r3 => bif !r3 then (some true) else (Option.bind (sl1In a0.State 0 1) fun r4 => some (!r4))) else (Option.bind (sl1In a0.State 0 1) fun r5 => some (!r5)))) else (bif ltB 0 a0.PendingSeq then (Option.bind (sIsValidKey a0.Pending.Key) fun r6 => bif !r6 then (some true) else (Option.bind (sl1In a0.State 0 1) fun r7 => some (!r7))) else (Option.bind (sl1In a0.State 0 1) fun r8 => some (!r8)))) fun (v1 : Bool) => bif v1 then (some false) else (Option.bind (sIsValidSubscriberRecord a0.Record) fun r9 => Option.bind (bif !r9 then (some true) else (Option.bind (sIsValidSubscription a0.Plan) fun r11 => bif !r11 then (some true) else (Option.bind (sIsValidPaging a0.Page) fun r12 => bif !r12 then (some true) else (Option.bind (sIsValidQuota a0.Usage) fun r13 => bif !r13 then (some true) else (Option.bind (sl30Stream a0) fun r14 => some (!r14)))))) fun (v10 : Bool) => bif v10 then (some false) else (Option.bind (sl1In a0.PendingSeq 0 999999) fun r15 => Option.bind (bif !r15 then (some true) else (Option.bind (sl1In a0.Generation 0 999999) fun r17 => bif !r17 then (some true) else (Option.bind (sl1In a0.Epoch 0 999999) fun r18 => bif !r18 then (some true) else (Option.bind (sl1In a0.RootKey 0 2147483646) fun r19 => some (!r19))))) fun (v16 : Bool) => bif v16 then (some false) else (Option.bind (sl1In a0.Cell 0 5) fun r20 => Option.bind (bif r20 then (Option.bind (sl1In a0.Quiet 0 5) fun r22 => bif r22 then (Option.bind (sl1In a0.Retry 0 3) fun r23 => some r23) else (some false)) else (some false)) fun (v21 : Bool) => some v21)))
theorem sIsValidSession_c {a0 : TSession} {r : Bool} (H : sIsValidSession a0 = some r) : Fn Tryz.prog 58 [.agg (eTSession a0)] [.c (.d (.b r))] := by
  refine fn_in Tryz.func58 rfl (by kernel_rfl) Tryz.ntmps58 rfl rfl rfl ?_
  refine wk ?_
  obtain ⟨v1, Hj, H⟩ := ob H
  refine awr_join ⟨[(1, .v (.c (.p 0 0))), (29, tB v1)], [(0, .var 65 [.d false (.i .i64 a0.Record.ID.Network), .d false (.i .i64 a0.Record.ID.Number), .d false (.i .i64 a0.Record.Key), .d false (.i .i64 a0.Record.Seq), .d false (.i .i64 a0.Plan.RateLimit), .d false (.i .i64 a0.Plan.BestClass), .d false (.i .i64 a0.Plan.GrantSize), .d false (.l (a0.Plan.RoamingNetworks.map eI)), .d false (.i .i64 a0.State), .d false (.i .i64 a0.Pending.Rand), .d false (.i .i64 a0.Pending.Autn), .d false (.i .i64 a0.Pending.MAC), .d false (.i .i64 a0.Pending.Res), .d false (.i .i64 a0.Pending.Key), .d false (.i .i64 a0.PendingSeq), .d false (.i .i64 a0.Generation), .d false (.i .i64 a0.RootKey), .d false (.i .i64 a0.Epoch), .d false (.i .i64 a0.Cell), .d false (.i .i64 a0.Quiet), .d false (.i .i64 a0.Page.Area), .d false (.i .i64 a0.Page.Attempt), .d false (.i .i64 a0.Page.Wait), .d false (.l (a0.Submitted.map eTPayload)), .d false (.i .i64 a0.Window.Next), .d false (.l (a0.Window.Unacked.map eTNumberedPacket)), .d false (.i .i64 a0.Retry), .d false (.i .i64 a0.Usage.SessionID), .d false (.i .i64 a0.Usage.Granted), .d false (.i .i64 a0.Usage.Used)])], 1⟩ ?_ ?_
  · have H := Hj
    refine wk ?_
    refine g2 rfl rfl rfl (fun h => ?_) (fun h => ?_)
    · have H := bt h H
      refine wk ?_
      obtain ⟨r2, hr2, H⟩ := ob H
      refine awr_ng rfl rfl rfl rfl (ca rfl rfl rfl (sIsValidKey_c hr2) trivial rfl rfl rfl rfl) ?_
      refine wk ?_
      refine g2 rfl rfl rfl (fun h => ?_) (fun h => ?_)
      · have H := bt h H
        refine wk ?_
        cases H
        exact weak_of ⟨rfl, rfl, rfl, rfl, trivial⟩ ⟨rfl, ⟨rfl, rfl⟩, trivial⟩
      · have H := bf h H
        refine wk ?_
        refine g2 rfl rfl rfl (fun h => ?_) (fun h => ?_)
        · have H := bt h H
          refine wk ?_
          obtain ⟨r3, hr3, H⟩ := ob H
          refine awr_ng rfl rfl rfl rfl (ca rfl rfl rfl (sIsValidKey_c hr3) trivial rfl rfl rfl rfl) ?_
          refine wk ?_
          refine g2 rfl rfl rfl (fun h => ?_) (fun h => ?_)
          · have H := bt h H
            refine wk ?_
            cases H
            exact weak_of ⟨rfl, rfl, rfl, rfl, trivial⟩ ⟨rfl, ⟨rfl, rfl⟩, trivial⟩
          · have H := bf h H
            refine wk ?_
            obtain ⟨r4, hr4, H⟩ := ob H
            refine awr_ng rfl rfl rfl rfl (ca rfl rfl rfl (sl1In_c hr4) trivial rfl rfl rfl rfl) ?_
            refine wk ?_
            cases H
            exact weak_of ⟨rfl, rfl, rfl, rfl, trivial⟩ ⟨rfl, ⟨rfl, rfl⟩, trivial⟩
        · have H := bf h H
          refine wk ?_
          obtain ⟨r5, hr5, H⟩ := ob H
          refine awr_ng rfl rfl rfl rfl (ca rfl rfl rfl (sl1In_c hr5) trivial rfl rfl rfl rfl) ?_
          refine wk ?_
          cases H
          exact weak_of ⟨rfl, rfl, rfl, rfl, trivial⟩ ⟨rfl, ⟨rfl, rfl⟩, trivial⟩
    · have H := bf h H
      refine wk ?_
      refine g2 rfl rfl rfl (fun h => ?_) (fun h => ?_)
      · have H := bt h H
        refine wk ?_
        obtain ⟨r6, hr6, H⟩ := ob H
        refine awr_ng rfl rfl rfl rfl (ca rfl rfl rfl (sIsValidKey_c hr6) trivial rfl rfl rfl rfl) ?_
        refine wk ?_
        refine g2 rfl rfl rfl (fun h => ?_) (fun h => ?_)
        · have H := bt h H
          refine wk ?_
          cases H
          exact weak_of ⟨rfl, rfl, rfl, rfl, trivial⟩ ⟨rfl, ⟨rfl, rfl⟩, trivial⟩
        · have H := bf h H
          refine wk ?_
          obtain ⟨r7, hr7, H⟩ := ob H
          refine awr_ng rfl rfl rfl rfl (ca rfl rfl rfl (sl1In_c hr7) trivial rfl rfl rfl rfl) ?_
          refine wk ?_
          cases H
          exact weak_of ⟨rfl, rfl, rfl, rfl, trivial⟩ ⟨rfl, ⟨rfl, rfl⟩, trivial⟩
      · have H := bf h H
        refine wk ?_
        obtain ⟨r8, hr8, H⟩ := ob H
        refine awr_ng rfl rfl rfl rfl (ca rfl rfl rfl (sl1In_c hr8) trivial rfl rfl rfl rfl) ?_
        refine wk ?_
        cases H
        exact weak_of ⟨rfl, rfl, rfl, rfl, trivial⟩ ⟨rfl, ⟨rfl, rfl⟩, trivial⟩
  refine wk ?_
  refine awc_cond rfl (fun h => ?_) (fun h => ?_)
  · have H := bt h H
    refine wk ?_
    cases H
    exact fin_ret (.cons (.tmp rfl) .nil) rfl rfl rfl
  · have H := bf h H
    refine wk ?_
    obtain ⟨r9, hr9, H⟩ := ob H
    refine awr_n rfl (ca rfl rfl rfl (sIsValidSubscriberRecord_c hr9) trivial rfl rfl rfl rfl) ?_
    refine wk ?_
    obtain ⟨v10, Hj, H⟩ := ob H
    refine awr_join ⟨[(1, .v (.c (.p 0 0))), (56, tB v10)], [(0, .var 65 [.d false (.i .i64 a0.Record.ID.Network), .d false (.i .i64 a0.Record.ID.Number), .d false (.i .i64 a0.Record.Key), .d false (.i .i64 a0.Record.Seq), .d false (.i .i64 a0.Plan.RateLimit), .d false (.i .i64 a0.Plan.BestClass), .d false (.i .i64 a0.Plan.GrantSize), .d false (.l (a0.Plan.RoamingNetworks.map eI)), .d false (.i .i64 a0.State), .d false (.i .i64 a0.Pending.Rand), .d false (.i .i64 a0.Pending.Autn), .d false (.i .i64 a0.Pending.MAC), .d false (.i .i64 a0.Pending.Res), .d false (.i .i64 a0.Pending.Key), .d false (.i .i64 a0.PendingSeq), .d false (.i .i64 a0.Generation), .d false (.i .i64 a0.RootKey), .d false (.i .i64 a0.Epoch), .d false (.i .i64 a0.Cell), .d false (.i .i64 a0.Quiet), .d false (.i .i64 a0.Page.Area), .d false (.i .i64 a0.Page.Attempt), .d false (.i .i64 a0.Page.Wait), .d false (.l (a0.Submitted.map eTPayload)), .d false (.i .i64 a0.Window.Next), .d false (.l (a0.Window.Unacked.map eTNumberedPacket)), .d false (.i .i64 a0.Retry), .d false (.i .i64 a0.Usage.SessionID), .d false (.i .i64 a0.Usage.Granted), .d false (.i .i64 a0.Usage.Used)])], 1⟩ ?_ ?_
    · have H := Hj
      refine wk ?_
      refine g2 rfl rfl rfl (fun h => ?_) (fun h => ?_)
      · have H := bt h H
        refine wk ?_
        cases H
        exact weak_of ⟨rfl, rfl, rfl, rfl, trivial⟩ ⟨rfl, ⟨rfl, rfl⟩, trivial⟩
      · have H := bf h H
        refine wk ?_
        obtain ⟨r11, hr11, H⟩ := ob H
        refine awr_ng rfl rfl rfl rfl (ca rfl rfl rfl (sIsValidSubscription_c hr11) trivial rfl rfl rfl rfl) ?_
        refine wk ?_
        refine g2 rfl rfl rfl (fun h => ?_) (fun h => ?_)
        · have H := bt h H
          refine wk ?_
          cases H
          exact weak_of ⟨rfl, rfl, rfl, rfl, trivial⟩ ⟨rfl, ⟨rfl, rfl⟩, trivial⟩
        · have H := bf h H
          refine wk ?_
          obtain ⟨r12, hr12, H⟩ := ob H
          refine awr_ng rfl rfl rfl rfl (ca rfl rfl rfl (sIsValidPaging_c hr12) trivial rfl rfl rfl rfl) ?_
          refine wk ?_
          refine g2 rfl rfl rfl (fun h => ?_) (fun h => ?_)
          · have H := bt h H
            refine wk ?_
            cases H
            exact weak_of ⟨rfl, rfl, rfl, rfl, trivial⟩ ⟨rfl, ⟨rfl, rfl⟩, trivial⟩
          · have H := bf h H
            refine wk ?_
            obtain ⟨r13, hr13, H⟩ := ob H
            refine awr_ng rfl rfl rfl rfl (ca rfl rfl rfl (sIsValidQuota_c hr13) trivial rfl rfl rfl rfl) ?_
            refine wk ?_
            refine g2 rfl rfl rfl (fun h => ?_) (fun h => ?_)
            · have H := bt h H
              refine wk ?_
              cases H
              exact weak_of ⟨rfl, rfl, rfl, rfl, trivial⟩ ⟨rfl, ⟨rfl, rfl⟩, trivial⟩
            · have H := bf h H
              refine wk ?_
              obtain ⟨r14, hr14, H⟩ := ob H
              refine awr_ng rfl rfl rfl rfl (ca rfl rfl rfl (sl30Stream_c hr14) trivial rfl rfl rfl rfl) ?_
              refine wk ?_
              cases H
              exact weak_of ⟨rfl, rfl, rfl, rfl, trivial⟩ ⟨rfl, ⟨rfl, rfl⟩, trivial⟩
    refine wk ?_
    refine awc_cond rfl (fun h => ?_) (fun h => ?_)
    · have H := bt h H
      refine wk ?_
      cases H
      exact fin_ret (.cons (.tmp rfl) .nil) rfl rfl rfl
    · have H := bf h H
      refine wk ?_
      obtain ⟨r15, hr15, H⟩ := ob H
      refine awr_n rfl (ca rfl rfl rfl (sl1In_c hr15) trivial rfl rfl rfl rfl) ?_
      refine wk ?_
      obtain ⟨v16, Hj, H⟩ := ob H
      refine awr_join ⟨[(1, .v (.c (.p 0 0))), (78, tB v16)], [(0, .var 65 [.d false (.i .i64 a0.Record.ID.Network), .d false (.i .i64 a0.Record.ID.Number), .d false (.i .i64 a0.Record.Key), .d false (.i .i64 a0.Record.Seq), .d false (.i .i64 a0.Plan.RateLimit), .d false (.i .i64 a0.Plan.BestClass), .d false (.i .i64 a0.Plan.GrantSize), .d false (.l (a0.Plan.RoamingNetworks.map eI)), .d false (.i .i64 a0.State), .d false (.i .i64 a0.Pending.Rand), .d false (.i .i64 a0.Pending.Autn), .d false (.i .i64 a0.Pending.MAC), .d false (.i .i64 a0.Pending.Res), .d false (.i .i64 a0.Pending.Key), .d false (.i .i64 a0.PendingSeq), .d false (.i .i64 a0.Generation), .d false (.i .i64 a0.RootKey), .d false (.i .i64 a0.Epoch), .d false (.i .i64 a0.Cell), .d false (.i .i64 a0.Quiet), .d false (.i .i64 a0.Page.Area), .d false (.i .i64 a0.Page.Attempt), .d false (.i .i64 a0.Page.Wait), .d false (.l (a0.Submitted.map eTPayload)), .d false (.i .i64 a0.Window.Next), .d false (.l (a0.Window.Unacked.map eTNumberedPacket)), .d false (.i .i64 a0.Retry), .d false (.i .i64 a0.Usage.SessionID), .d false (.i .i64 a0.Usage.Granted), .d false (.i .i64 a0.Usage.Used)])], 1⟩ ?_ ?_
      · have H := Hj
        refine wk ?_
        refine g2 rfl rfl rfl (fun h => ?_) (fun h => ?_)
        · have H := bt h H
          refine wk ?_
          cases H
          exact weak_of ⟨rfl, rfl, rfl, rfl, trivial⟩ ⟨rfl, ⟨rfl, rfl⟩, trivial⟩
        · have H := bf h H
          refine wk ?_
          obtain ⟨r17, hr17, H⟩ := ob H
          refine awr_ng rfl rfl rfl rfl (ca rfl rfl rfl (sl1In_c hr17) trivial rfl rfl rfl rfl) ?_
          refine wk ?_
          refine g2 rfl rfl rfl (fun h => ?_) (fun h => ?_)
          · have H := bt h H
            refine wk ?_
            cases H
            exact weak_of ⟨rfl, rfl, rfl, rfl, trivial⟩ ⟨rfl, ⟨rfl, rfl⟩, trivial⟩
          · have H := bf h H
            refine wk ?_
            obtain ⟨r18, hr18, H⟩ := ob H
            refine awr_ng rfl rfl rfl rfl (ca rfl rfl rfl (sl1In_c hr18) trivial rfl rfl rfl rfl) ?_
            refine wk ?_
            refine g2 rfl rfl rfl (fun h => ?_) (fun h => ?_)
            · have H := bt h H
              refine wk ?_
              cases H
              exact weak_of ⟨rfl, rfl, rfl, rfl, trivial⟩ ⟨rfl, ⟨rfl, rfl⟩, trivial⟩
            · have H := bf h H
              refine wk ?_
              obtain ⟨r19, hr19, H⟩ := ob H
              refine awr_ng rfl rfl rfl rfl (ca rfl rfl rfl (sl1In_c hr19) trivial rfl rfl rfl rfl) ?_
              refine wk ?_
              cases H
              exact weak_of ⟨rfl, rfl, rfl, rfl, trivial⟩ ⟨rfl, ⟨rfl, rfl⟩, trivial⟩
      refine wk ?_
      refine awc_cond rfl (fun h => ?_) (fun h => ?_)
      · have H := bt h H
        refine wk ?_
        cases H
        exact fin_ret (.cons (.tmp rfl) .nil) rfl rfl rfl
      · have H := bf h H
        refine wk ?_
        obtain ⟨r20, hr20, H⟩ := ob H
        refine awr_n rfl (ca rfl rfl rfl (sl1In_c hr20) trivial rfl rfl rfl rfl) ?_
        refine wk ?_
        obtain ⟨v21, Hj, H⟩ := ob H
        refine awr_join ⟨[(2, tB v21)], [], 0⟩ ?_ ?_
        · have H := Hj
          refine wk ?_
          refine g2 rfl rfl rfl (fun h => ?_) (fun h => ?_)
          · have H := bt h H
            refine wk ?_
            obtain ⟨r22, hr22, H⟩ := ob H
            refine awr_ng rfl rfl rfl rfl (ca rfl rfl rfl (sl1In_c hr22) trivial rfl rfl rfl rfl) ?_
            refine wk ?_
            refine g2 rfl rfl rfl (fun h => ?_) (fun h => ?_)
            · have H := bt h H
              refine wk ?_
              obtain ⟨r23, hr23, H⟩ := ob H
              refine awr_ng rfl rfl rfl rfl (ca rfl rfl rfl (sl1In_c hr23) trivial rfl rfl rfl rfl) ?_
              refine wk ?_
              cases H
              exact weak_of ⟨rfl, rfl, trivial⟩ trivial
            · have H := bf h H
              refine wk ?_
              cases H
              exact weak_of ⟨rfl, rfl, trivial⟩ trivial
          · have H := bf h H
            refine wk ?_
            cases H
            exact weak_of ⟨rfl, rfl, trivial⟩ trivial
        refine wk ?_
        cases H
        exact fin_ret (.cons (.tmp rfl) .nil) rfl rfl rfl
def sTotalReserved_L1 (a0 : TAccount) : (Int × Int) → Option (Step (Int × Int) (Int))
  | (v1, v2) => bif ltB v2 ((a0.Reservations.length : Nat) : Int) then (Option.bind (ix a0.Reservations v2) fun x5 => some (.next (WR (v1 + x5.Amount), WR (v2 + 1)))) else (some (.done v1))
def sTotalReserved (a0 : TAccount) : Option Int :=
  Option.bind (iter (sTotalReserved_L1 a0) FU (0, 0)) fun (v4 : Int) => some v4
theorem sTotalReserved_c {a0 : TAccount} {r : Int} (H : sTotalReserved a0 = some r) : Fn Tryz.prog 84 [.agg (eTAccount a0)] [.c (.d (.i .i64 r))] := by
  refine fn_in Tryz.func84 rfl (by kernel_rfl) Tryz.ntmps84 rfl rfl rfl ?_
  refine wk ?_
  obtain ⟨v4, Hj, H⟩ := ob H
  refine awc_jblk ⟨[(3, tI v4)], [], 0⟩ ?_ ?_
  · refine wk ?_
    refine awc_iter (fun (q : Int × Int) => ⟨[(1, .v (.c (.p 0 0))), (3, tI q.1), (4, tI q.2)], [(0, .var 68 [.d false (.i .i64 a0.Total), .d false (.i .i64 a0.Available), .d false (.i .i64 a0.Spent), .d false (.l (a0.Reservations.map eTReservation))])], 1⟩) Hj (weak_of ⟨rfl, rfl, rfl, rfl, rfl, rfl, trivial⟩ ⟨rfl, ⟨rfl, rfl⟩, trivial⟩) ?_
    rintro ⟨v1, v2⟩ o H
    try dsimp only
    refine wk ?_
    refine awc_cond rfl (fun h => ?_) (fun h => ?_)
    · have H := bt h H
      refine wk ?_
      obtain ⟨x5, hx5, H⟩ := ob H
      refine awr_n rfl (xdT (enc := eTReservation) hx5 (fun _ => rfl) rfl rfl rfl) ?_
      refine wk ?_
      cases H
      refine iq_n ?_
      exact weak_of ⟨rfl, rfl, rfl, rfl, rfl, rfl, trivial⟩ ⟨rfl, ⟨rfl, rfl⟩, trivial⟩
    · have H := bf h H
      refine wk ?_
      cases H
      refine iq_e (fun hq => ?_)
      cases hq
      refine wk ?_
      exact weak_of ⟨rfl, rfl, trivial⟩ trivial
  refine wk ?_
  cases H
  exact fin_ret (.cons (.tmp rfl) .nil) rfl rfl rfl
def sIsValidAccount_L1 (a0 : TAccount) : Int → Option (Step (Int) (Bool))
  | v1 => bif ltB v1 ((a0.Reservations.length : Nat) : Int) then (Option.bind (ix a0.Reservations v1) fun x2 => Option.bind (bif ltB x2.SessionID 0 then (some true) else (Option.bind (ix a0.Reservations v1) fun x4 => Option.bind (sl1In x4.Amount 1 100000) fun r5 => bif !r5 then (some true) else (bif ltB 0 v1 then (Option.bind (ix a0.Reservations (WR (v1 - 1))) fun x6 => Option.bind (ix a0.Reservations v1) fun x7 => some (leB x7.SessionID x6.SessionID)) else (some false)))) fun (v3 : Bool) => bif v3 then (dn (some false)) else (some (.next (WR (v1 + 1))))) else (dn (Option.bind (sl1In a0.Total 0 100000) fun r8 => Option.bind (bif r8 then (Option.bind (sl1In a0.Available 0 a0.Total) fun r10 => bif r10 then (Option.bind (sl1In a0.Spent 0 a0.Total) fun r11 => bif r11 then (bif leB ((a0.Reservations.length : Nat) : Int) 8 then (Option.bind (sTotalReserved a0) fun r12 => some (eqB (WR ((WR (a0.Available + a0.Spent)) + r12)) a0.Total)) else (some false)) else (some false)) else (some false)) else (some false)) fun (v9 : Bool) => some v9))
def sIsValidAccount (a0 : TAccount) : Option Bool :=
  iter (sIsValidAccount_L1 a0) FU 0
theorem sIsValidAccount_c {a0 : TAccount} {r : Bool} (H : sIsValidAccount a0 = some r) : Fn Tryz.prog 59 [.agg (eTAccount a0)] [.c (.d (.b r))] := by
  refine fn_in Tryz.func59 rfl (by kernel_rfl) Tryz.ntmps59 rfl rfl rfl ?_
  refine wkd ?_
  refine awc_iter (fun (q : Int) => ⟨[(1, .v (.c (.p 0 0))), (3, tI q)], [(0, .var 68 [.d false (.i .i64 a0.Total), .d false (.i .i64 a0.Available), .d false (.i .i64 a0.Spent), .d false (.l (a0.Reservations.map eTReservation))])], 1⟩) H (weak_of ⟨rfl, rfl, rfl, rfl, trivial⟩ ⟨rfl, ⟨rfl, rfl⟩, trivial⟩) ?_
  rintro v1 o H
  try dsimp only
  refine wkd ?_
  refine awc_cond rfl (fun h => ?_) (fun h => ?_)
  · have H := bt h H
    refine wkd ?_
    obtain ⟨x2, hx2, H⟩ := ob H
    refine dr_n rfl (xdT (enc := eTReservation) hx2 (fun _ => rfl) rfl rfl rfl) ?_
    refine wkd ?_
    obtain ⟨v3, Hj, H⟩ := ob H
    refine dr_join ⟨[(1, .v (.c (.p 0 0))), (3, tI v1), (47, tB v3)], [(0, .var 68 [.d false (.i .i64 a0.Total), .d false (.i .i64 a0.Available), .d false (.i .i64 a0.Spent), .d false (.l (a0.Reservations.map eTReservation))])], 1⟩ ?_ ?_
    · have H := Hj
      refine wkd ?_
      refine dg2 rfl rfl rfl (fun h => ?_) (fun h => ?_)
      · have H := bt h H
        refine wkd ?_
        cases H
        exact weak_of ⟨rfl, rfl, rfl, rfl, rfl, rfl, trivial⟩ ⟨rfl, ⟨rfl, rfl⟩, trivial⟩
      · have H := bf h H
        refine wkd ?_
        obtain ⟨x4, hx4, H⟩ := ob H
        refine dr_ng rfl rfl rfl rfl (xdT (enc := eTReservation) hx4 (fun _ => rfl) rfl rfl rfl) ?_
        refine wkd ?_
        obtain ⟨r5, hr5, H⟩ := ob H
        refine dr_ng rfl rfl rfl rfl (ca rfl rfl rfl (sl1In_c hr5) trivial rfl rfl rfl rfl) ?_
        refine wkd ?_
        refine dg2 rfl rfl rfl (fun h => ?_) (fun h => ?_)
        · have H := bt h H
          refine wkd ?_
          cases H
          exact weak_of ⟨rfl, rfl, rfl, rfl, rfl, rfl, trivial⟩ ⟨rfl, ⟨rfl, rfl⟩, trivial⟩
        · have H := bf h H
          refine wkd ?_
          refine dg2 rfl rfl rfl (fun h => ?_) (fun h => ?_)
          · have H := bt h H
            refine wkd ?_
            obtain ⟨x6, hx6, H⟩ := ob H
            refine dr_ng rfl rfl rfl rfl (xdT (enc := eTReservation) hx6 (fun _ => rfl) rfl rfl rfl) ?_
            refine wkd ?_
            obtain ⟨x7, hx7, H⟩ := ob H
            refine dr_ng rfl rfl rfl rfl (xdT (enc := eTReservation) hx7 (fun _ => rfl) rfl rfl rfl) ?_
            refine wkd ?_
            cases H
            exact weak_of ⟨rfl, rfl, rfl, rfl, rfl, rfl, trivial⟩ ⟨rfl, ⟨rfl, rfl⟩, trivial⟩
          · have H := bf h H
            refine wkd ?_
            cases H
            exact weak_of ⟨rfl, rfl, rfl, rfl, rfl, rfl, trivial⟩ ⟨rfl, ⟨rfl, rfl⟩, trivial⟩
    refine wkd ?_
    refine awc_cond rfl (fun h => ?_) (fun h => ?_)
    · have H := bt h H
      refine wkd ?_
      obtain ⟨r0, Hd, rfl⟩ := dnE H
      refine iq_r (fun hq => ?_)
      have H := Hd.trans (congrArg some hq)
      refine wkd ?_
      cases H
      exact fin_ret (.cons (.tmp rfl) .nil) rfl rfl rfl
    · have H := bf h H
      refine wkd ?_
      cases H
      refine iq_n ?_
      exact weak_of ⟨rfl, rfl, rfl, rfl, trivial⟩ ⟨rfl, ⟨rfl, rfl⟩, trivial⟩
  · have H := bf h H
    refine wkd ?_
    obtain ⟨r0, Hd, rfl⟩ := dnE H
    refine iq_e (fun hq => ?_)
    have H := Hd.trans (congrArg some hq)
    refine wkd ?_
    obtain ⟨r8, hr8, H⟩ := ob H
    refine dr_n rfl (ca rfl rfl rfl (sl1In_c hr8) trivial rfl rfl rfl rfl) ?_
    refine wkd ?_
    obtain ⟨v9, Hj, H⟩ := ob H
    refine dr_join ⟨[(2, tB v9)], [], 0⟩ ?_ ?_
    · have H := Hj
      refine wkd ?_
      refine dg2 rfl rfl rfl (fun h => ?_) (fun h => ?_)
      · have H := bt h H
        refine wkd ?_
        obtain ⟨r10, hr10, H⟩ := ob H
        refine dr_ng rfl rfl rfl rfl (ca rfl rfl rfl (sl1In_c hr10) trivial rfl rfl rfl rfl) ?_
        refine wkd ?_
        refine dg2 rfl rfl rfl (fun h => ?_) (fun h => ?_)
        · have H := bt h H
          refine wkd ?_
          obtain ⟨r11, hr11, H⟩ := ob H
          refine dr_ng rfl rfl rfl rfl (ca rfl rfl rfl (sl1In_c hr11) trivial rfl rfl rfl rfl) ?_
          refine wkd ?_
          refine dg2 rfl rfl rfl (fun h => ?_) (fun h => ?_)
          · have H := bt h H
            refine wkd ?_
            refine dg2 rfl rfl rfl (fun h => ?_) (fun h => ?_)
            · have H := bt h H
              refine wkd ?_
              obtain ⟨r12, hr12, H⟩ := ob H
              refine dr_ng rfl rfl rfl rfl (ca rfl rfl rfl (sTotalReserved_c hr12) trivial rfl rfl rfl rfl) ?_
              refine wkd ?_
              cases H
              exact weak_of ⟨rfl, rfl, trivial⟩ trivial
            · have H := bf h H
              refine wkd ?_
              cases H
              exact weak_of ⟨rfl, rfl, trivial⟩ trivial
          · have H := bf h H
            refine wkd ?_
            cases H
            exact weak_of ⟨rfl, rfl, trivial⟩ trivial
        · have H := bf h H
          refine wkd ?_
          cases H
          exact weak_of ⟨rfl, rfl, trivial⟩ trivial
      · have H := bf h H
        refine wkd ?_
        cases H
        exact weak_of ⟨rfl, rfl, trivial⟩ trivial
    refine wkd ?_
    cases H
    exact fin_ret (.cons (.tmp rfl) .nil) rfl rfl rfl
def sl16Find_L1 (a0 : TAccount) (a1 : Int) : Int → Option (Step (Int) (Int))
  | v1 => bif ltB v1 ((a0.Reservations.length : Nat) : Int) then (Option.bind (ix a0.Reservations v1) fun x2 => bif eqB x2.SessionID a1 then (dn (some v1)) else (some (.next (WR (v1 + 1))))) else (dn (some (-1)))
def sl16Find (a0 : TAccount) (a1 : Int) : Option Int :=
  iter (sl16Find_L1 a0 a1) FU 0
theorem sl16Find_c {a0 : TAccount} {a1 : Int} {r : Int} (H : sl16Find a0 a1 = some r) : Fn Tryz.prog 104 [.agg (eTAccount a0), aI a1] [.c (.d (.i .i64 r))] := by
  refine fn_in Tryz.func104 rfl (by kernel_rfl) Tryz.ntmps104 rfl rfl rfl ?_
  refine wk ?_
  refine awc_iter (fun (q : Int) => ⟨[(1, tI a1), (2, .v (.c (.p 0 0))), (5, tI q)], [(0, .var 68 [.d false (.i .i64 a0.Total), .d false (.i .i64 a0.Available), .d false (.i .i64 a0.Spent), .d false (.l (a0.Reservations.map eTReservation))])], 1⟩) H (weak_of ⟨rfl, rfl, rfl, rfl, rfl, rfl, trivial⟩ ⟨rfl, ⟨rfl, rfl⟩, trivial⟩) ?_
  rintro v1 o H
  try dsimp only
  refine wk ?_
  refine awc_cond rfl (fun h => ?_) (fun h => ?_)
  · have H := bt h H
    refine wk ?_
    obtain ⟨x2, hx2, H⟩ := ob H
    refine awr_n rfl (xdT (enc := eTReservation) hx2 (fun _ => rfl) rfl rfl rfl) ?_
    refine wk ?_
    refine awc_cond rfl (fun h => ?_) (fun h => ?_)
    · have H := bt h H
      refine wk ?_
      obtain ⟨r0, Hd, rfl⟩ := dnE H
      refine iq_r (fun hq => ?_)
      have H := Hd.trans (congrArg some hq)
      refine wk ?_
      cases H
      exact fin_ret (.cons (.tmp rfl) .nil) rfl rfl rfl
    · have H := bf h H
      refine wk ?_
      cases H
      refine iq_n ?_
      exact weak_of ⟨rfl, rfl, rfl, rfl, rfl, rfl, trivial⟩ ⟨rfl, ⟨rfl, rfl⟩, trivial⟩
  · have H := bf h H
    refine wk ?_
    obtain ⟨r0, Hd, rfl⟩ := dnE H
    refine iq_e (fun hq => ?_)
    have H := Hd.trans (congrArg some hq)
    refine wk ?_
    cases H
    exact fin_ret (.cons (.tmp rfl) .nil) rfl rfl rfl
def sReservedFor (a0 : TAccount) (a1 : Int) : Option Int :=
  Option.bind (sl16Find a0 a1) fun r1 => bif ltB r1 0 then (some 0) else (Option.bind (ix a0.Reservations r1) fun x2 => some x2.Amount)
theorem sReservedFor_c {a0 : TAccount} {a1 : Int} {r : Int} (H : sReservedFor a0 a1 = some r) : Fn Tryz.prog 85 [.agg (eTAccount a0), aI a1] [.c (.d (.i .i64 r))] := by
  refine fn_in Tryz.func85 rfl (by kernel_rfl) Tryz.ntmps85 rfl rfl rfl ?_
  refine wk ?_
  obtain ⟨r1, hr1, H⟩ := ob H
  refine awr_n rfl (ca rfl rfl rfl (sl16Find_c hr1) trivial rfl rfl rfl rfl) ?_
  refine wk ?_
  refine awc_cond rfl (fun h => ?_) (fun h => ?_)
  · have H := bt h H
    refine wk ?_
    cases H
    exact fin_ret (.cons (.tmp rfl) .nil) rfl rfl rfl
  · have H := bf h H
    refine wk ?_
    obtain ⟨x2, hx2, H⟩ := ob H
    refine awr_n rfl (xdT (enc := eTReservation) hx2 (fun _ => rfl) rfl rfl rfl) ?_
    refine wk ?_
    cases H
    exact fin_ret (.cons (.tmp rfl) .nil) rfl rfl rfl
def sQuotaMatchesAccount (a0 : TAccount) (a1 : TQuota) : Option Bool :=
  Option.bind (sIsValidAccount a0) fun r1 => Option.bind (bif r1 then (Option.bind (sIsValidQuota a1) fun r3 => bif r3 then (Option.bind (sReservedFor a0 a1.SessionID) fun r4 => some (eqB r4 a1.Granted)) else (some false)) else (some false)) fun (v2 : Bool) => some v2
theorem sQuotaMatchesAccount_c {a0 : TAccount} {a1 : TQuota} {r : Bool} (H : sQuotaMatchesAccount a0 a1 = some r) : Fn Tryz.prog 60 [.agg (eTAccount a0), .agg (eTQuota a1)] [.c (.d (.b r))] := by
  refine fn_in Tryz.func60 rfl (by kernel_rfl) Tryz.ntmps60 rfl rfl rfl ?_
  refine wkd ?_
  obtain ⟨r1, hr1, H⟩ := ob H
  refine dr_n rfl (ca rfl rfl rfl (sIsValidAccount_c hr1) trivial rfl rfl rfl rfl) ?_
  refine wkd ?_
  obtain ⟨v2, Hj, H⟩ := ob H
  refine dr_join ⟨[(4, tB v2)], [], 0⟩ ?_ ?_
  · have H := Hj
    refine wkd ?_
    refine dg2 rfl rfl rfl (fun h => ?_) (fun h => ?_)
    · have H := bt h H
      refine wkd ?_
      obtain ⟨r3, hr3, H⟩ := ob H
      refine dr_ng rfl rfl rfl rfl (ca rfl rfl rfl (sIsValidQuota_c hr3) trivial rfl rfl rfl rfl) ?_
      refine wkd ?_
      refine dg2 rfl rfl rfl (fun h => ?_) (fun h => ?_)
      · have H := bt h H
        refine wkd ?_
        obtain ⟨r4, hr4, H⟩ := ob H
        refine dr_ng rfl rfl rfl rfl (ca rfl rfl rfl (sReservedFor_c hr4) trivial rfl rfl rfl rfl) ?_
        refine wkd ?_
        cases H
        exact weak_of ⟨rfl, rfl, trivial⟩ trivial
      · have H := bf h H
        refine wkd ?_
        cases H
        exact weak_of ⟨rfl, rfl, trivial⟩ trivial
    · have H := bf h H
      refine wkd ?_
      cases H
      exact weak_of ⟨rfl, rfl, trivial⟩ trivial
  refine wkd ?_
  cases H
  exact fin_ret (.cons (.tmp rfl) .nil) rfl rfl rfl
def sl32Member (a0 : TNetwork) (a1 : Int) : Option Bool :=
  Option.bind (ix a0.Devices a1) fun x1 => Option.bind (ix a0.Sessions a1) fun x2 => Option.bind (sIsValidDevice x1) fun r3 => Option.bind (bif !r3 then (some true) else (Option.bind (sIsValidSession x2) fun r5 => bif !r5 then (some true) else (Option.bind (ix a0.Accounts a1) fun x6 => Option.bind (sIsValidAccount x6) fun r7 => bif !r7 then (some true) else (bif !(eqB x1.Card.ID.Network x2.Record.ID.Network && (eqB x1.Card.ID.Number x2.Record.ID.Number && true)) then (some true) else (some (!eqB x1.Card.Key x2.Record.Key)))))) fun (v4 : Bool) => bif v4 then (some false) else (Option.bind (bif ltB x1.Cell ((a0.Map.Cells.length : Nat) : Int) then (bif ltB x2.Cell ((a0.Map.Cells.length : Nat) : Int) then (bif eqB x2.Usage.SessionID a1 then (Option.bind (ix a0.Accounts a1) fun x9 => Option.bind (sQuotaMatchesAccount x9 x2.Usage) fun r10 => some r10) else (some false)) else (some false)) else (some false)) fun (v8 : Bool) => some v8)
theorem sl32Member_c {a0 : TNetwork} {a1 : Int} {r : Bool} (H : sl32Member a0 a1 = some r) : Fn Tryz.prog 28 [.agg (eTNetwork a0), aI a1] [.c (.d (.b r))] := by
  refine fn_in Tryz.func28 rfl (by kernel_rfl) Tryz.ntmps28 rfl rfl rfl ?_
  refine wkd ?_
  obtain ⟨x1, hx1, H⟩ := ob H
  refine awr_n rfl (xdT (enc := eTDevice) hx1 (fun _ => rfl) rfl rfl rfl) ?_
  refine wkd ?_
  obtain ⟨x2, hx2, H⟩ := ob H
  refine awr_n rfl (xdT (enc := eTSession) hx2 (fun _ => rfl) rfl rfl rfl) ?_
  refine wkd ?_
  obtain ⟨r3, hr3, H⟩ := ob H
  refine awr_n rfl (ca rfl rfl rfl (sIsValidDevice_c hr3) trivial rfl rfl rfl rfl) ?_
  refine wkd ?_
  obtain ⟨v4, Hj, H⟩ := ob H
  refine awr_join ⟨[(1, tI a1), (2, .v (.c (.p 0 0))), (5, .v (.c (.p 1 0))), (6, .v (.c (.p 2 0))), (51, tB v4)], [(0, .var 40 [.d false (.l (a0.Map.Cells.map eTCell)), .d false (.l (a0.Devices.map eTDevice)), .d false (.l (a0.Sessions.map eTSession)), .d false (.l (a0.Accounts.map eTAccount)), .d false (.l (a0.Flights.map eTFlight)), .d false (.i .i64 a0.DownCells), .d false (.i .i64 a0.Core.Size), .d false (.i .i64 a0.Core.UpMask), .d false (.i .i64 a0.Now), .d false (.i .i64 a0.Lost)]), (1, .var 52 [.d false (.i .i64 x1.Card.ID.Network), .d false (.i .i64 x1.Card.ID.Number), .d false (.i .i64 x1.Card.Key), .d false (.i .i64 x1.Card.LastSeq), .d false (.i .i64 x1.State), .d false (.i .i64 x1.Cell), .d false (.i .i64 x1.Generation), .d false (.i .i64 x1.RootKey), .d false (.i .i64 x1.Epoch), .d false (.b x1.PathConfirmed), .d false (.i .i64 x1.Wait), .d false (.i .i64 x1.Receiver.Next), .d false (.l (x1.Receiver.Pending.map eTNumberedPacket)), .d false (.l (x1.Receiver.Delivered.map eTPayload))]), (2, .var 65 [.d false (.i .i64 x2.Record.ID.Network), .d false (.i .i64 x2.Record.ID.Number), .d false (.i .i64 x2.Record.Key), .d false (.i .i64 x2.Record.Seq), .d false (.i .i64 x2.Plan.RateLimit), .d false (.i .i64 x2.Plan.BestClass), .d false (.i .i64 x2.Plan.GrantSize), .d false (.l (x2.Plan.RoamingNetworks.map eI)), .d false (.i .i64 x2.State), .d false (.i .i64 x2.Pending.Rand), .d false (.i .i64 x2.Pending.Autn), .d false (.i .i64 x2.Pending.MAC), .d false (.i .i64 x2.Pending.Res), .d false (.i .i64 x2.Pending.Key), .d false (.i .i64 x2.PendingSeq), .d false (.i .i64 x2.Generation), .d false (.i .i64 x2.RootKey), .d false (.i .i64 x2.Epoch), .d false (.i .i64 x2.Cell), .d false (.i .i64 x2.Quiet), .d false (.i .i64 x2.Page.Area), .d false (.i .i64 x2.Page.Attempt), .d false (.i .i64 x2.Page.Wait), .d false (.l (x2.Submitted.map eTPayload)), .d false (.i .i64 x2.Window.Next), .d false (.l (x2.Window.Unacked.map eTNumberedPacket)), .d false (.i .i64 x2.Retry), .d false (.i .i64 x2.Usage.SessionID), .d false (.i .i64 x2.Usage.Granted), .d false (.i .i64 x2.Usage.Used)])], 3⟩ ?_ ?_
  · have H := Hj
    refine wkd ?_
    refine g2 rfl rfl rfl (fun h => ?_) (fun h => ?_)
    · have H := bt h H
      refine wkd ?_
      cases H
      exact weak_of ⟨rfl, rfl, rfl, rfl, rfl, rfl, rfl, rfl, rfl, rfl, trivial⟩ ⟨rfl, ⟨rfl, rfl⟩, rfl, ⟨rfl, rfl⟩, rfl, ⟨rfl, rfl⟩, trivial⟩
    · have H := bf h H
      refine wkd ?_
      obtain ⟨r5, hr5, H⟩ := ob H
      refine awr_ng rfl rfl rfl rfl (ca rfl rfl rfl (sIsValidSession_c hr5) trivial rfl rfl rfl rfl) ?_
      refine wkd ?_
      refine g2 rfl rfl rfl (fun h => ?_) (fun h => ?_)
      · have H := bt h H
        refine wkd ?_
        cases H
        exact weak_of ⟨rfl, rfl, rfl, rfl, rfl, rfl, rfl, rfl, rfl, rfl, trivial⟩ ⟨rfl, ⟨rfl, rfl⟩, rfl, ⟨rfl, rfl⟩, rfl, ⟨rfl, rfl⟩, trivial⟩
      · have H := bf h H
        refine wkd ?_
        obtain ⟨x6, hx6, H⟩ := ob H
        refine awr_ng rfl rfl rfl rfl (xdT (enc := eTAccount) hx6 (fun _ => rfl) rfl rfl rfl) ?_
        refine wkd ?_
        obtain ⟨r7, hr7, H⟩ := ob H
        refine awr_ng rfl rfl rfl rfl (ca rfl rfl rfl (sIsValidAccount_c hr7) trivial rfl rfl rfl rfl) ?_
        refine wkd ?_
        refine g2 rfl rfl rfl (fun h => ?_) (fun h => ?_)
        · have H := bt h H
          refine wkd ?_
          cases H
          exact weak_of ⟨rfl, rfl, rfl, rfl, rfl, rfl, rfl, rfl, rfl, rfl, trivial⟩ ⟨rfl, ⟨rfl, rfl⟩, rfl, ⟨rfl, rfl⟩, rfl, ⟨rfl, rfl⟩, trivial⟩
        · have H := bf h H
          refine wkd ?_
          refine g2 rfl rfl rfl (fun h => ?_) (fun h => ?_)
          · have H := bt h H
            refine wkd ?_
            cases H
            exact weak_of ⟨rfl, rfl, rfl, rfl, rfl, rfl, rfl, rfl, rfl, rfl, trivial⟩ ⟨rfl, ⟨rfl, rfl⟩, rfl, ⟨rfl, rfl⟩, rfl, ⟨rfl, rfl⟩, trivial⟩
          · have H := bf h H
            refine wkd ?_
            cases H
            exact weak_of ⟨rfl, rfl, rfl, rfl, rfl, rfl, rfl, rfl, rfl, rfl, trivial⟩ ⟨rfl, ⟨rfl, rfl⟩, rfl, ⟨rfl, rfl⟩, rfl, ⟨rfl, rfl⟩, trivial⟩
  refine wkd ?_
  refine awc_cond rfl (fun h => ?_) (fun h => ?_)
  · have H := bt h H
    refine wkd ?_
    cases H
    exact fin_ret (.cons (.tmp rfl) .nil) rfl rfl rfl
  · have H := bf h H
    refine wkd ?_
    obtain ⟨v8, Hj, H⟩ := ob H
    refine dr_join ⟨[(4, tB v8)], [], 0⟩ ?_ ?_
    · have H := Hj
      refine wkd ?_
      refine dg2 rfl rfl rfl (fun h => ?_) (fun h => ?_)
      · have H := bt h H
        refine wkd ?_
        refine dg2 rfl rfl rfl (fun h => ?_) (fun h => ?_)
        · have H := bt h H
          refine wkd ?_
          refine dg2 rfl rfl rfl (fun h => ?_) (fun h => ?_)
          · have H := bt h H
            refine wkd ?_
            obtain ⟨x9, hx9, H⟩ := ob H
            refine dr_ng rfl rfl rfl rfl (xdT (enc := eTAccount) hx9 (fun _ => rfl) rfl rfl rfl) ?_
            refine wkd ?_
            obtain ⟨r10, hr10, H⟩ := ob H
            refine dr_ng rfl rfl rfl rfl (ca rfl rfl rfl (sQuotaMatchesAccount_c hr10) trivial rfl rfl rfl rfl) ?_
            refine wkd ?_
            cases H
            exact weak_of ⟨rfl, rfl, trivial⟩ trivial
          · have H := bf h H
            refine wkd ?_
            cases H
            exact weak_of ⟨rfl, rfl, trivial⟩ trivial
        · have H := bf h H
          refine wkd ?_
          cases H
          exact weak_of ⟨rfl, rfl, trivial⟩ trivial
      · have H := bf h H
        refine wkd ?_
        cases H
        exact weak_of ⟨rfl, rfl, trivial⟩ trivial
    refine wkd ?_
    cases H
    exact fin_ret (.cons (.tmp rfl) .nil) rfl rfl rfl
def sIsValidNetwork_L2 (a0 : TNetwork) : Int → Option (Step (Int) (Bool))
  | v6 => bif ltB v6 ((a0.Flights.length : Nat) : Int) then (Option.bind (ix a0.Flights v6) fun x7 => Option.bind (sl1In x7.Device 0 (WR (((a0.Devices.length : Nat) : Int) - 1))) fun r8 => Option.bind (bif !r8 then (some true) else (Option.bind (ix a0.Flights v6) fun x10 => Option.bind (sl1In x10.Cell 0 (WR (((a0.Map.Cells.length : Nat) : Int) - 1))) fun r11 => some (!r11))) fun (v9 : Bool) => bif v9 then (dn (some false)) else (some (.next (WR (v6 + 1))))) else (dn (bif leB 0 ((a0.Map.Cells.length : Nat) : Int) then (Option.bind (sl1In a0.DownCells 0 (WR ((bShl .i64 1 ((a0.Map.Cells.length : Nat) : Int)) - 1))) fun r12 => Option.bind (bif r12 then (Option.bind (sl1In a0.Now 0 100000) fun r14 => bif r14 then (some (leB 0 a0.Lost)) else (some false)) else (some false)) fun (v13 : Bool) => some v13) else none))
def sIsValidNetwork_L1 (a0 : TNetwork) : Int → Option (Step (Int) (Bool))
  | v4 => bif ltB v4 ((a0.Devices.length : Nat) : Int) then (Option.bind (sl32Member a0 v4) fun r5 => bif !r5 then (dn (some false)) else (some (.next (WR (v4 + 1))))) else (dn (iter (sIsValidNetwork_L2 a0) FU 0))
def sIsValidNetwork (a0 : TNetwork) : Option Bool :=
  Option.bind (sIsValidMap a0.Map) fun r1 => Option.bind (bif !r1 then (some true) else (Option.bind (sIsValidPool a0.Core) fun r3 => bif !r3 then (some true) else (bif eqB a0.Core.UpMask 0 then (some true) else (bif ltB 4 ((a0.Devices.length : Nat) : Int) then (some true) else (bif !eqB ((a0.Sessions.length : Nat) : Int) ((a0.Devices.length : Nat) : Int) then (some true) else (bif !eqB ((a0.Accounts.length : Nat) : Int) ((a0.Devices.length : Nat) : Int) then (some true) else (some (ltB 200 ((a0.Flights.length : Nat) : Int))))))))) fun (v2 : Bool) => bif v2 then (some false) else (iter (sIsValidNetwork_L1 a0) FU 0)
theorem sIsValidNetwork_c {a0 : TNetwork} {r : Bool} (H : sIsValidNetwork a0 = some r) : Fn Tryz.prog 7 [.agg (eTNetwork a0)] [.c (.d (.b r))] := by
  refine fn_in Tryz.func7 rfl (by kernel_rfl) Tryz.ntmps7 rfl rfl rfl ?_
  refine wkd ?_
  obtain ⟨r1, hr1, H⟩ := ob H
  refine awr_n rfl (ca rfl rfl rfl (sIsValidMap_c hr1) trivial rfl rfl rfl rfl) ?_
  refine wkd ?_
  obtain ⟨v2, Hj, H⟩ := ob H
  refine awr_join ⟨[(1, .v (.c (.p 0 0))), (50, tB v2)], [(0, .var 40 [.d false (.l (a0.Map.Cells.map eTCell)), .d false (.l (a0.Devices.map eTDevice)), .d false (.l (a0.Sessions.map eTSession)), .d false (.l (a0.Accounts.map eTAccount)), .d false (.l (a0.Flights.map eTFlight)), .d false (.i .i64 a0.DownCells), .d false (.i .i64 a0.Core.Size), .d false (.i .i64 a0.Core.UpMask), .d false (.i .i64 a0.Now), .d false (.i .i64 a0.Lost)])], 1⟩ ?_ ?_
  · have H := Hj
    refine wkd ?_
    refine g2 rfl rfl rfl (fun h => ?_) (fun h => ?_)
    · have H := bt h H
      refine wkd ?_
      cases H
      exact weak_of ⟨rfl, rfl, rfl, rfl, trivial⟩ ⟨rfl, ⟨rfl, rfl⟩, trivial⟩
    · have H := bf h H
      refine wkd ?_
      obtain ⟨r3, hr3, H⟩ := ob H
      refine awr_ng rfl rfl rfl rfl (ca rfl rfl rfl (sIsValidPool_c hr3) trivial rfl rfl rfl rfl) ?_
      refine wkd ?_
      refine g2 rfl rfl rfl (fun h => ?_) (fun h => ?_)
      · have H := bt h H
        refine wkd ?_
        cases H
        exact weak_of ⟨rfl, rfl, rfl, rfl, trivial⟩ ⟨rfl, ⟨rfl, rfl⟩, trivial⟩
      · have H := bf h H
        refine wkd ?_
        refine g2 rfl rfl rfl (fun h => ?_) (fun h => ?_)
        · have H := bt h H
          refine wkd ?_
          cases H
          exact weak_of ⟨rfl, rfl, rfl, rfl, trivial⟩ ⟨rfl, ⟨rfl, rfl⟩, trivial⟩
        · have H := bf h H
          refine wkd ?_
          refine g2 rfl rfl rfl (fun h => ?_) (fun h => ?_)
          · have H := bt h H
            refine wkd ?_
            cases H
            exact weak_of ⟨rfl, rfl, rfl, rfl, trivial⟩ ⟨rfl, ⟨rfl, rfl⟩, trivial⟩
          · have H := bf h H
            refine wkd ?_
            refine g2 rfl rfl rfl (fun h => ?_) (fun h => ?_)
            · have H := bt h H
              refine wkd ?_
              cases H
              exact weak_of ⟨rfl, rfl, rfl, rfl, trivial⟩ ⟨rfl, ⟨rfl, rfl⟩, trivial⟩
            · have H := bf h H
              refine wkd ?_
              refine g2 rfl rfl rfl (fun h => ?_) (fun h => ?_)
              · have H := bt h H
                refine wkd ?_
                cases H
                exact weak_of ⟨rfl, rfl, rfl, rfl, trivial⟩ ⟨rfl, ⟨rfl, rfl⟩, trivial⟩
              · have H := bf h H
                refine wkd ?_
                cases H
                exact weak_of ⟨rfl, rfl, rfl, rfl, trivial⟩ ⟨rfl, ⟨rfl, rfl⟩, trivial⟩
  refine wkd ?_
  refine awc_cond rfl (fun h => ?_) (fun h => ?_)
  · have H := bt h H
    refine wkd ?_
    cases H
    exact fin_ret (.cons (.tmp rfl) .nil) rfl rfl rfl
  · have H := bf h H
    refine wkd ?_
    refine awc_iter (fun (q : Int) => ⟨[(1, .v (.c (.p 0 0))), (3, tI q)], [(0, .var 40 [.d false (.l (a0.Map.Cells.map eTCell)), .d false (.l (a0.Devices.map eTDevice)), .d false (.l (a0.Sessions.map eTSession)), .d false (.l (a0.Accounts.map eTAccount)), .d false (.l (a0.Flights.map eTFlight)), .d false (.i .i64 a0.DownCells), .d false (.i .i64 a0.Core.Size), .d false (.i .i64 a0.Core.UpMask), .d false (.i .i64 a0.Now), .d false (.i .i64 a0.Lost)])], 1⟩) H (weak_of ⟨rfl, rfl, rfl, rfl, trivial⟩ ⟨rfl, ⟨rfl, rfl⟩, trivial⟩) ?_
    rintro v4 o H
    try dsimp only
    refine wkd ?_
    refine awc_cond rfl (fun h => ?_) (fun h => ?_)
    · have H := bt h H
      refine wkd ?_
      obtain ⟨r5, hr5, H⟩ := ob H
      refine awr_n rfl (ca rfl rfl rfl (sl32Member_c hr5) trivial rfl rfl rfl rfl) ?_
      refine wkd ?_
      refine awc_cond rfl (fun h => ?_) (fun h => ?_)
      · have H := bt h H
        refine wkd ?_
        obtain ⟨r0, Hd, rfl⟩ := dnE H
        refine iq_r (fun hq => ?_)
        have H := Hd.trans (congrArg some hq)
        refine wkd ?_
        cases H
        exact fin_ret (.cons (.tmp rfl) .nil) rfl rfl rfl
      · have H := bf h H
        refine wkd ?_
        cases H
        refine iq_n ?_
        exact weak_of ⟨rfl, rfl, rfl, rfl, trivial⟩ ⟨rfl, ⟨rfl, rfl⟩, trivial⟩
    · have H := bf h H
      refine wkd ?_
      obtain ⟨r0, Hd, rfl⟩ := dnE H
      refine iq_e (fun hq => ?_)
      have H := Hd.trans (congrArg some hq)
      refine wkd ?_
      refine awc_iter (fun (q : Int) => ⟨[(1, .v (.c (.p 0 0))), (4, tI q)], [(0, .var 40 [.d false (.l (a0.Map.Cells.map eTCell)), .d false (.l (a0.Devices.map eTDevice)), .d false (.l (a0.Sessions.map eTSession)), .d false (.l (a0.Accounts.map eTAccount)), .d false (.l (a0.Flights.map eTFlight)), .d false (.i .i64 a0.DownCells), .d false (.i .i64 a0.Core.Size), .d false (.i .i64 a0.Core.UpMask), .d false (.i .i64 a0.Now), .d false (.i .i64 a0.Lost)])], 1⟩) H (weak_of ⟨rfl, rfl, rfl, rfl, trivial⟩ ⟨rfl, ⟨rfl, rfl⟩, trivial⟩) ?_
      rintro v6 o H
      try dsimp only
      refine wkd ?_
      refine awc_cond rfl (fun h => ?_) (fun h => ?_)
      · have H := bt h H
        refine wkd ?_
        obtain ⟨x7, hx7, H⟩ := ob H
        refine dr_n rfl (xdT (enc := eTFlight) hx7 (fun _ => rfl) rfl rfl rfl) ?_
        refine wkd ?_
        obtain ⟨r8, hr8, H⟩ := ob H
        refine dr_n rfl (ca rfl rfl rfl (sl1In_c hr8) trivial rfl rfl rfl rfl) ?_
        refine wkd ?_
        obtain ⟨v9, Hj, H⟩ := ob H
        refine dr_join ⟨[(1, .v (.c (.p 0 0))), (4, tI v6), (95, tB v9)], [(0, .var 40 [.d false (.l (a0.Map.Cells.map eTCell)), .d false (.l (a0.Devices.map eTDevice)), .d false (.l (a0.Sessions.map eTSession)), .d false (.l (a0.Accounts.map eTAccount)), .d false (.l (a0.Flights.map eTFlight)), .d false (.i .i64 a0.DownCells), .d false (.i .i64 a0.Core.Size), .d false (.i .i64 a0.Core.UpMask), .d false (.i .i64 a0.Now), .d false (.i .i64 a0.Lost)])], 1⟩ ?_ ?_
        · have H := Hj
          refine wkd ?_
          refine dg2 rfl rfl rfl (fun h => ?_) (fun h => ?_)
          · have H := bt h H
            refine wkd ?_
            cases H
            exact weak_of ⟨rfl, rfl, rfl, rfl, rfl, rfl, trivial⟩ ⟨rfl, ⟨rfl, rfl⟩, trivial⟩
          · have H := bf h H
            refine wkd ?_
            obtain ⟨x10, hx10, H⟩ := ob H
            refine dr_ng rfl rfl rfl rfl (xdT (enc := eTFlight) hx10 (fun _ => rfl) rfl rfl rfl) ?_
            refine wkd ?_
            obtain ⟨r11, hr11, H⟩ := ob H
            refine dr_ng rfl rfl rfl rfl (ca rfl rfl rfl (sl1In_c hr11) trivial rfl rfl rfl rfl) ?_
            refine wkd ?_
            cases H
            exact weak_of ⟨rfl, rfl, rfl, rfl, rfl, rfl, trivial⟩ ⟨rfl, ⟨rfl, rfl⟩, trivial⟩
        refine wkd ?_
        refine awc_cond rfl (fun h => ?_) (fun h => ?_)
        · have H := bt h H
          refine wkd ?_
          obtain ⟨r0, Hd, rfl⟩ := dnE H
          refine iq_r (fun hq => ?_)
          have H := Hd.trans (congrArg some hq)
          refine wkd ?_
          cases H
          exact fin_ret (.cons (.tmp rfl) .nil) rfl rfl rfl
        · have H := bf h H
          refine wkd ?_
          cases H
          refine iq_n ?_
          exact weak_of ⟨rfl, rfl, rfl, rfl, trivial⟩ ⟨rfl, ⟨rfl, rfl⟩, trivial⟩
      · have H := bf h H
        refine wkd ?_
        obtain ⟨r0, Hd, rfl⟩ := dnE H
        refine iq_e (fun hq => ?_)
        have H := Hd.trans (congrArg some hq)
        refine wkd ?_
        obtain ⟨h, H⟩ := rq H
        refine dr_n rfl (ishT h rfl rfl rfl rfl) ?_
        refine wkd ?_
        obtain ⟨r12, hr12, H⟩ := ob H
        refine dr_n rfl (ca rfl rfl rfl (sl1In_c hr12) trivial rfl rfl rfl rfl) ?_
        refine wkd ?_
        obtain ⟨v13, Hj, H⟩ := ob H
        refine dr_join ⟨[(2, tB v13)], [], 0⟩ ?_ ?_
        · have H := Hj
          refine wkd ?_
          refine dg2 rfl rfl rfl (fun h => ?_) (fun h => ?_)
          · have H := bt h H
            refine wkd ?_
            obtain ⟨r14, hr14, H⟩ := ob H
            refine dr_ng rfl rfl rfl rfl (ca rfl rfl rfl (sl1In_c hr14) trivial rfl rfl rfl rfl) ?_
            refine wkd ?_
            refine dg2 rfl rfl rfl (fun h => ?_) (fun h => ?_)
            · have H := bt h H
              refine wkd ?_
              cases H
              exact weak_of ⟨rfl, rfl, trivial⟩ trivial
            · have H := bf h H
              refine wkd ?_
              cases H
              exact weak_of ⟨rfl, rfl, trivial⟩ trivial
          · have H := bf h H
            refine wkd ?_
            cases H
            exact weak_of ⟨rfl, rfl, trivial⟩ trivial
        refine wkd ?_
        cases H
        exact fin_ret (.cons (.tmp rfl) .nil) rfl rfl rfl
def sl32Records_L2 (a0 : List TSubscriberRecord) (v1 : Int) : Int → Option (Step (Int) (Step (Int) (Bool)))
  | v4 => bif ltB v4 v1 then (Option.bind (ix a0 v4) fun x5 => Option.bind (ix a0 v1) fun x6 => bif (eqB x5.ID.Network x6.ID.Network && (eqB x5.ID.Number x6.ID.Number && true)) then (dn (dn (some false))) else (some (.next (WR (v4 + 1))))) else (dn (some (.next (WR (v1 + 1)))))
def sl32Records_L1 (a0 : List TSubscriberRecord) : Int → Option (Step (Int) (Bool))
  | v1 => bif ltB v1 ((a0.length : Nat) : Int) then (Option.bind (ix a0 v1) fun x2 => Option.bind (sIsValidSubscriberRecord x2) fun r3 => bif !r3 then (dn (some false)) else (iter (sl32Records_L2 a0 v1) FU 0)) else (dn (some (leB ((a0.length : Nat) : Int) 4)))
def sl32Records (a0 : List TSubscriberRecord) : Option Bool :=
  iter (sl32Records_L1 a0) FU 0
theorem sl32Records_c {a0 : List TSubscriberRecord} {r : Bool} (H : sl32Records a0 = some r) : Fn Tryz.prog 31 [aL (a0.map eTSubscriberRecord)] [.c (.d (.b r))] := by
  refine fn_in Tryz.func31 rfl (by kernel_rfl) Tryz.ntmps31 rfl rfl rfl ?_
  refine wkd ?_
  refine awc_iter (fun (q : Int) => ⟨[(0, .v (.c (.d false (.l (a0.map eTSubscriberRecord))))), (3, tI q)], [], 0⟩) H (weak_of ⟨rfl, rfl, rfl, rfl, trivial⟩ trivial) ?_
  rintro v1 o H
  try dsimp only
  refine wkd ?_
  refine awc_cond rfl (fun h => ?_) (fun h => ?_)
  · have H := bt h H
    refine wkd ?_
    obtain ⟨x2, hx2, H⟩ := ob H
    refine awr_n rfl (xdT (enc := eTSubscriberRecord) hx2 (fun _ => rfl) rfl rfl rfl) ?_
    refine wkd ?_
    obtain ⟨r3, hr3, H⟩ := ob H
    refine awr_n rfl (ca rfl rfl rfl (sIsValidSubscriberRecord_c hr3) trivial rfl rfl rfl rfl) ?_
    refine wkd ?_
    refine awc_cond rfl (fun h => ?_) (fun h => ?_)
    · have H := bt h H
      refine wkd ?_
      obtain ⟨r0, Hd, rfl⟩ := dnE H
      refine iq_r (fun hq => ?_)
      have H := Hd.trans (congrArg some hq)
      refine wkd ?_
      cases H
      exact fin_ret (.cons (.tmp rfl) .nil) rfl rfl rfl
    · have H := bf h H
      refine wkd ?_
      refine awc_iter (fun (q : Int) => ⟨[(0, .v (.c (.d false (.l (a0.map eTSubscriberRecord))))), (3, tI v1), (4, tI q)], [], 0⟩) H (weak_of ⟨rfl, rfl, rfl, rfl, rfl, rfl, trivial⟩ trivial) ?_
      rintro v4 o H
      try dsimp only
      refine wkd ?_
      refine awc_cond rfl (fun h => ?_) (fun h => ?_)
      · have H := bt h H
        refine wkd ?_
        obtain ⟨x5, hx5, H⟩ := ob H
        refine dr_n rfl (xdT (enc := eTSubscriberRecord) hx5 (fun _ => rfl) rfl rfl rfl) ?_
        refine wkd ?_
        obtain ⟨x6, hx6, H⟩ := ob H
        refine dr_n rfl (xdT (enc := eTSubscriberRecord) hx6 (fun _ => rfl) rfl rfl rfl) ?_
        refine wkd ?_
        refine awc_cond rfl (fun h => ?_) (fun h => ?_)
        · have H := bt h H
          refine wkd ?_
          obtain ⟨r0, Hd, rfl⟩ := dnE H
          refine iq_r (fun hq => ?_)
          have H := Hd.trans (congrArg some hq)
          refine wkd ?_
          obtain ⟨r0, Hd, rfl⟩ := dnE H
          refine iq_r (fun hq => ?_)
          have H := Hd.trans (congrArg some hq)
          refine wkd ?_
          cases H
          exact fin_ret (.cons (.tmp rfl) .nil) rfl rfl rfl
        · have H := bf h H
          refine wkd ?_
          cases H
          refine iq_n ?_
          exact weak_of ⟨rfl, rfl, rfl, rfl, rfl, rfl, trivial⟩ trivial
      · have H := bf h H
        refine wkd ?_
        obtain ⟨r0, Hd, rfl⟩ := dnE H
        refine iq_e (fun hq => ?_)
        have H := Hd.trans (congrArg some hq)
        refine wkd ?_
        cases H
        refine iq_n ?_
        exact weak_of ⟨rfl, rfl, rfl, rfl, trivial⟩ trivial
  · have H := bf h H
    refine wkd ?_
    obtain ⟨r0, Hd, rfl⟩ := dnE H
    refine iq_e (fun hq => ?_)
    have H := Hd.trans (congrArg some hq)
    refine wkd ?_
    cases H
    exact fin_ret (.cons (.tmp rfl) .nil) rfl rfl rfl
def sl10Copy_L1 (a0 : TCellMap) : (Int × List TCell) → Option (Step (Int × List TCell) (List TCell))
  | (v1, v2) => bif ltB v1 ((a0.Cells.length : Nat) : Int) then (Option.bind (ix a0.Cells v1) fun x6 => Option.bind (ix a0.Cells v1) fun x7 => bif apOk 8 (([] : List Int) ++ x7.Neighbors).length then (bif apOk 32 (v2 ++ [(⟨x6.Area, (([] : List Int) ++ x7.Neighbors)⟩ : TCell)]).length then (some (.next (WR (v1 + 1), (v2 ++ [(⟨x6.Area, (([] : List Int) ++ x7.Neighbors)⟩ : TCell)])))) else none) else none) else (some (.done v2))
def sl10Copy (a0 : TCellMap) : Option TCellMap :=
  Option.bind (iter (sl10Copy_L1 a0) FU (0, ([] : List TCell))) fun (v5 : List TCell) => some (⟨v5⟩ : TCellMap)
theorem sl10Copy_c {a0 : TCellMap} {r : TCellMap} (H : sl10Copy a0 = some r) : FnV Tryz.prog 32 [] [.v (.agg [.d false (.l (a0.Cells.map eTCell))])] [] (.v (.agg [.wn 210 r.Cells.length])) [(210, .rown 102 2 (r.Cells.map eTCell) true)] := by
  refine fn_inV Tryz.func32 rfl (by kernel_rfl) Tryz.ntmps32 rfl rfl rfl ?_
  refine wkz ?_
  obtain ⟨v5, Hj, H⟩ := ob H
  refine awc_jblk ⟨[(2, .v (.c (.p 211 0))), (3, .v (.c (.p 212 0)))], [(211, .var 26 [.nil]), (212, .var 26 [.wn 213 v5.length]), (213, .rown 102 2 (v5.map eTCell) true)], 214⟩ ?_ ?_
  · refine wkz ?_
    refine awc_iter (fun (q : Int × List TCell) => ⟨[(1, .v (.c (.p 210 0))), (2, .v (.c (.p 211 0))), (3, .v (.c (.p 212 0))), (4, tI q.1)], [(210, .var 26 [.d false (.l (a0.Cells.map eTCell))]), (211, .var 26 [.nil]), (212, .var 26 [.wn 213 q.2.length]), (213, .rown 102 2 (q.2.map eTCell) true)], 214⟩) Hj (by refine weak_trans (weak_nnV (o := 212) (j := 0) 102 2 true rfl rfl rfl rfl rfl) ?_; refine weak_trans (weak_wnB (o := 213) (n := ([] : List TCell).length) rfl rfl (by repeat (first | exact trivial | refine ⟨by first | rfl | simp, ?_⟩)) (by repeat (first | exact trivial | refine ⟨by first | rfl | simp, ?_⟩))) ?_; exact weak_of ⟨rfl, rfl, rfl, rfl, rfl, rfl, rfl, rfl, trivial⟩ ⟨rfl, ⟨rfl, rfl⟩, rfl, ⟨rfl, rfl⟩, rfl, ⟨rfl, rfl⟩, rfl, ⟨rfl, rfl⟩, trivial⟩) ?_
    rintro ⟨v1, v2⟩ o H
    try dsimp only
    refine wkz ?_
    refine awc_cond rfl (fun h => ?_) (fun h => ?_)
    · have H := bt h H
      refine wkz ?_
      refine awc_dz [0, 1, 2, 3, 4, 5, 6, 7, 8, 9, 10, 11, 12, 13, 14, 15, 16, 17, 18, 19, 20] Try.follows (by kernel_rfl) (by kernel_rfl) rfl ?_
      refine wkz ?_
      obtain ⟨x6, hx6, H⟩ := ob H
      refine dz_n rfl (xdT (enc := eTCell) hx6 (fun _ => rfl) rfl rfl rfl) ?_
      refine wkz ?_
      obtain ⟨x7, hx7, H⟩ := ob H
      refine dz_n rfl (xdT (enc := eTCell) hx7 (fun _ => rfl) rfl rfl rfl) ?_
      refine wkz ?_
      obtain ⟨h, H⟩ := rq H
      refine dz_w rfl (apxFD (enc := eI) (ys := ([] : List Int)) (zs := x7.Neighbors) [214] h rfl (fun _ => rfl) (fun _ => rfl) (by first | rfl | simp) rfl .d rfl rfl rfl rfl rfl rfl) ?_
      refine wkz ?_
      obtain ⟨h, H⟩ := rq H
      refine dz_bark (ds := [214]) (by kernel_rfl) (by kernel_rfl) rfl (by kernel_rfl) weak_id (bo_n rfl (apTn (enc := eTCell) (ys := v2) (zs := [(⟨x6.Area, (([] : List Int) ++ x7.Neighbors)⟩ : TCell)]) h (by first | exact List.cons_ne_nil _ _ | simp) rfl (fun _ => rfl) (by first | rfl | simp) (.w rfl (by first | rfl | exact lm _ | simp)) rfl rfl rfl rfl rfl rfl rfl rfl rfl rfl)) weak_id rfl ?_
      refine wkz ?_
      refine dz_w rfl (spx 100093 rfl rfl rfl rfl rfl rfl rfl rfl) ?_
      refine wkz ?_
      cases H
      refine iq_n ?_
      refine weak_trans (weak_toN 213 rfl rfl rfl) ?_
      exact weak_of ⟨rfl, rfl, rfl, rfl, rfl, rfl, rfl, rfl, trivial⟩ ⟨rfl, ⟨rfl, rfl⟩, rfl, ⟨rfl, rfl⟩, rfl, ⟨rfl, rfl⟩, rfl, ⟨rfl, rfl⟩, trivial⟩
    · have H := bf h H
      refine wkz ?_
      cases H
      refine iq_e (fun hq => ?_)
      cases hq
      refine wkz ?_
      exact weak_of ⟨rfl, rfl, rfl, rfl, trivial⟩ ⟨rfl, ⟨rfl, rfl⟩, rfl, ⟨rfl, rfl⟩, rfl, ⟨rfl, rfl⟩, trivial⟩
  refine wkz ?_
  cases H
  refine clo_v (weak_swp (p := 213) (q := 210) rfl rfl rfl rfl) ?_
  exact fin_retV (.cons (.cell rfl rfl rfl) .nil) rfl (by first | rfl | simp) trivial ⟨rfl, trivial⟩
def sNewDevice (a0 : TUSIM) (a1 : Int) : Option TDevice :=
  some (⟨a0, 0, a1, 0, 0, 0, false, 0, (⟨1, [], []⟩ : TReceiveWindow)⟩ : TDevice)
theorem sNewDevice_c {a0 : TUSIM} {a1 : Int} {r : TDevice} (H : sNewDevice a0 a1 = some r) : Fn Tryz.prog 33 [.agg (eTUSIM a0), aI a1] [.agg [.d (.i .i64 r.Card.ID.Network), .d (.i .i64 r.Card.ID.Number), .d (.i .i64 r.Card.Key), .d (.i .i64 r.Card.LastSeq), .d (.i .i64 r.State), .d (.i .i64 r.Cell), .d (.i .i64 r.Generation), .d (.i .i64 r.RootKey), .d (.i .i64 r.Epoch), .d (.b r.PathConfirmed), .d (.i .i64 r.Wait), .d (.i .i64 r.Receiver.Next), .nil, .nil]] := by
  refine fn_in Tryz.func33 rfl (by kernel_rfl) Tryz.ntmps33 rfl rfl rfl ?_
  refine wk ?_
  cases H
  exact fin_ret (.cons (.cell rfl rfl rfl) .nil) rfl rfl rfl
def sl30Plan (a0 : TSubscription) : Option TSubscription :=
  bif apOk 8 (([] : List Int) ++ a0.RoamingNetworks).length then (some (⟨a0.RateLimit, a0.BestClass, a0.GrantSize, (([] : List Int) ++ a0.RoamingNetworks)⟩ : TSubscription)) else none
theorem sl30Plan_c {a0 : TSubscription} {r : TSubscription} (H : sl30Plan a0 = some r) : Fn Tryz.prog 62 [.agg (eTSubscription a0)] [.agg [.d (.i .i64 r.RateLimit), .d (.i .i64 r.BestClass), .d (.i .i64 r.GrantSize), .own 3 1 (r.RoamingNetworks.map eI) r.RoamingNetworks.length]] := by
  refine fn_in Tryz.func62 rfl (by kernel_rfl) Tryz.ntmps62 rfl rfl rfl ?_
  refine wk ?_
  obtain ⟨h, H⟩ := rq H
  refine awr_step rfl (apT (enc := eI) (ys := ([] : List Int)) (zs := a0.RoamingNetworks) h rfl (fun _ => rfl) (by first | rfl | simp) .d rfl rfl rfl rfl rfl rfl rfl rfl) ?_
  refine awr_weak (weak_flat (enc := eI) (o := 3) rfl (fun _ => rfl)) ?_
  refine wk ?_
  cases H
  exact fin_ret (.cons (.cell rfl rfl rfl) .nil) rfl rfl (by first | rfl | simp)
def sNewSession (a0 : TSubscriberRecord) (a1 : TSubscription) (a2 : Int) : Option TSession :=
  Option.bind (sl30Plan a1) fun r1 => some (⟨a0, r1, 0, (⟨0, 0, 0, 0, 0⟩ : TAuthVector), 0, 0, 0, 0, 0, 0, (⟨0, 0, 0⟩ : TPagingState), [], (⟨1, []⟩ : TSendWindow), 0, (⟨a2, 0, 0⟩ : TQuota)⟩ : TSession)
theorem sNewSession_c {a0 : TSubscriberRecord} {a1 : TSubscription} {a2 : Int} {r : TSession} (H : sNewSession a0 a1 a2 = some r) : Fn Tryz.prog 34 [.agg (eTSubscriberRecord a0), .agg (eTSubscription a1), aI a2] [.agg [.d (.i .i64 r.Record.ID.Network), .d (.i .i64 r.Record.ID.Number), .d (.i .i64 r.Record.Key), .d (.i .i64 r.Record.Seq), .d (.i .i64 r.Plan.RateLimit), .d (.i .i64 r.Plan.BestClass), .d (.i .i64 r.Plan.GrantSize), .own 3 1 (r.Plan.RoamingNetworks.map eI) r.Plan.RoamingNetworks.length, .d (.i .i64 r.State), .d (.i .i64 r.Pending.Rand), .d (.i .i64 r.Pending.Autn), .d (.i .i64 r.Pending.MAC), .d (.i .i64 r.Pending.Res), .d (.i .i64 r.Pending.Key), .d (.i .i64 r.PendingSeq), .d (.i .i64 r.Generation), .d (.i .i64 r.RootKey), .d (.i .i64 r.Epoch), .d (.i .i64 r.Cell), .d (.i .i64 r.Quiet), .d (.i .i64 r.Page.Area), .d (.i .i64 r.Page.Attempt), .d (.i .i64 r.Page.Wait), .nil, .d (.i .i64 r.Window.Next), .nil, .d (.i .i64 r.Retry), .d (.i .i64 r.Usage.SessionID), .d (.i .i64 r.Usage.Granted), .d (.i .i64 r.Usage.Used)]] := by
  refine fn_in Tryz.func34 rfl (by kernel_rfl) Tryz.ntmps34 rfl rfl rfl ?_
  refine wkz ?_
  refine awc_dz [0, 1, 2, 3, 4, 5, 6, 7] Try.follows (by kernel_rfl) (by kernel_rfl) rfl ?_
  refine wkz ?_
  obtain ⟨r1, hr1, H⟩ := ob H
  refine dz_n rfl (ca rfl rfl rfl (sl30Plan_c hr1) trivial rfl rfl rfl rfl) ?_
  refine wkz ?_
  refine dz_w rfl (spx 100095 rfl rfl rfl rfl rfl rfl rfl rfl) ?_
  refine wkz ?_
  cases H
  exact fin_ret (.cons (.cell rfl rfl rfl) .nil) rfl rfl (by first | rfl | simp)
def sNewAccount (a0 : Int) : Option TAccount :=
  Option.bind (sl1In a0 0 100000) fun r1 => Option.bind (bif !r1 then (some 0) else (some a0)) fun (v2 : Int) => some (⟨v2, v2, 0, []⟩ : TAccount)
theorem sNewAccount_c {a0 : Int} {r : TAccount} (H : sNewAccount a0 = some r) : Fn Tryz.prog 35 [aI a0] [.agg [.d (.i .i64 r.Total), .d (.i .i64 r.Available), .d (.i .i64 r.Spent), .nil]] := by
  refine fn_in Tryz.func35 rfl (by kernel_rfl) Tryz.ntmps35 rfl rfl rfl ?_
  refine wk ?_
  obtain ⟨r1, hr1, H⟩ := ob H
  refine awr_n rfl (ca rfl rfl rfl (sl1In_c hr1) trivial rfl rfl rfl rfl) ?_
  refine wk ?_
  obtain ⟨v2, Hj, H⟩ := ob H
  refine awc_join ⟨[(0, tI v2), (2, .v (.c (.p 0 0)))], [(0, .var 68 [.d false (.i .i64 0), .d false (.i .i64 0), .d false (.i .i64 0), .nil])], 1⟩ ?_ ?_
  · have H := Hj
    refine wk ?_
    refine awc_cond rfl (fun h => ?_) (fun h => ?_)
    · have H := bt h H
      refine wk ?_
      cases H
      exact weak_of ⟨rfl, rfl, rfl, rfl, trivial⟩ ⟨rfl, ⟨rfl, rfl⟩, trivial⟩
    · have H := bf h H
      refine wk ?_
      cases H
      exact weak_of ⟨rfl, rfl, rfl, rfl, trivial⟩ ⟨rfl, ⟨rfl, rfl⟩, trivial⟩
  refine wk ?_
  cases H
  exact fin_ret (.cons (.cell rfl rfl rfl) .nil) rfl rfl rfl
def sNewNetwork_L1 (a0 : TCellMap) (a1 : List TSubscriberRecord) (a2 : TSubscription) (a3 : Int) : (Int × List TAccount × List TSession × List TDevice) → Option (Step (Int × List TAccount × List TSession × List TDevice) (List TAccount × List TSession × List TDevice))
  | (v6, v7, v8, v9) => bif ltB v6 ((a1.length : Nat) : Int) then (Option.bind (ix a1 v6) fun x17 => bif !eqB ((a0.Cells.length : Nat) : Int) 0 then (Option.bind (sNewDevice (⟨x17.ID, x17.Key, x17.Seq⟩ : TUSIM) (Int.tmod v6 ((a0.Cells.length : Nat) : Int))) fun r18 => bif apOk 144 (v9 ++ [(⟨r18.Card, r18.State, r18.Cell, r18.Generation, r18.RootKey, r18.Epoch, r18.PathConfirmed, r18.Wait, (⟨r18.Receiver.Next, [], []⟩ : TReceiveWindow)⟩ : TDevice)]).length then (Option.bind (sNewSession x17 a2 v6) fun r19 => bif apOk 288 (v8 ++ [(⟨r19.Record, r19.Plan, r19.State, r19.Pending, r19.PendingSeq, r19.Generation, r19.RootKey, r19.Epoch, r19.Cell, r19.Quiet, r19.Page, [], (⟨r19.Window.Next, []⟩ : TSendWindow), r19.Retry, r19.Usage⟩ : TSession)]).length then (Option.bind (sNewAccount a3) fun r20 => bif apOk 48 (v7 ++ [(⟨r20.Total, r20.Available, r20.Spent, []⟩ : TAccount)]).length then (some (.next (WR (v6 + 1), (v7 ++ [(⟨r20.Total, r20.Available, r20.Spent, []⟩ : TAccount)]), (v8 ++ [(⟨r19.Record, r19.Plan, r19.State, r19.Pending, r19.PendingSeq, r19.Generation, r19.RootKey, r19.Epoch, r19.Cell, r19.Quiet, r19.Page, [], (⟨r19.Window.Next, []⟩ : TSendWindow), r19.Retry, r19.Usage⟩ : TSession)]), (v9 ++ [(⟨r18.Card, r18.State, r18.Cell, r18.Generation, r18.RootKey, r18.Epoch, r18.PathConfirmed, r18.Wait, (⟨r18.Receiver.Next, [], []⟩ : TReceiveWindow)⟩ : TDevice)])))) else none) else none) else none) else none) else (some (.done (v7, v8, v9)))
def sNewNetwork (a0 : TCellMap) (a1 : List TSubscriberRecord) (a2 : TSubscription) (a3 : Int) : Option TNetwork :=
  Option.bind (sIsValidMap a0) fun r1 => Option.bind (bif !r1 then (some true) else (Option.bind (sIsValidSubscription a2) fun r3 => bif !r3 then (some true) else (Option.bind (sl32Records a1) fun r4 => some (!r4)))) fun (v2 : Bool) => bif v2 then (some (⟨(⟨[]⟩ : TCellMap), [], [], [], [], 0, (⟨0, 0⟩ : TServerPool), 0, 0⟩ : TNetwork)) else (Option.bind (sl10Copy a0) fun r5 => Option.bind (iter (sNewNetwork_L1 a0 a1 a2 a3) FU (0, ([] : List TAccount), ([] : List TSession), ([] : List TDevice))) fun ((v14, v15, v16) : List TAccount × List TSession × List TDevice) => some (⟨r5, v16, v15, v14, [], 0, (⟨2, 3⟩ : TServerPool), 0, 0⟩ : TNetwork))
theorem sNewNetwork_c {a0 : TCellMap} {a1 : List TSubscriberRecord} {a2 : TSubscription} {a3 : Int} {r : TNetwork} (H : sNewNetwork a0 a1 a2 a3 = some r) : FnV Tryz.prog 8 [] [.v (.agg [.d false (.l (a0.Cells.map eTCell))]), .v (.c (.d false (.l (a1.map eTSubscriberRecord)))), .v (.agg [.d false (.i .i64 a2.RateLimit), .d false (.i .i64 a2.BestClass), .d false (.i .i64 a2.GrantSize), .d false (.l (a2.RoamingNetworks.map eI))]), tI a3] [] (.v (.agg [.wn 210 r.Map.Cells.length, .wn 211 r.Devices.length, .wn 212 r.Sessions.length, .wn 213 r.Accounts.length, .nil, .d false (.i .i64 r.DownCells), .d false (.i .i64 r.Core.Size), .d false (.i .i64 r.Core.UpMask), .d false (.i .i64 r.Now), .d false (.i .i64 r.Lost)])) [(210, .rown 102 2 (r.Map.Cells.map eTCell) true), (211, .rown 52 14 (r.Devices.map eTDevice) true), (212, .rown 65 30 (r.Sessions.map eTSession) true), (213, .rown 68 4 (r.Accounts.map eTAccount) true)] := by
  refine fn_inV Tryz.func8 rfl (by kernel_rfl) Tryz.ntmps8 rfl rfl rfl ?_
  refine wkz ?_
  obtain ⟨r1, hr1, H⟩ := ob H
  refine awr_n rfl (ca rfl rfl rfl (sIsValidMap_c hr1) trivial rfl rfl rfl rfl) ?_
  refine wkz ?_
  obtain ⟨v2, Hj, H⟩ := ob H
  refine awr_join ⟨[(1, .v (.c (.d false (.l (a1.map eTSubscriberRecord))))), (3, tI a3), (4, .v (.c (.p 210 0))), (6, .v (.c (.p 211 0))), (8, .v (.c (.p 212 0))), (24, tB v2)], [(210, .var 26 [.d false (.l (a0.Cells.map eTCell))]), (211, .var 30 [.d false (.i .i64 a2.RateLimit), .d false (.i .i64 a2.BestClass), .d false (.i .i64 a2.GrantSize), .d false (.l (a2.RoamingNetworks.map eI))]), (212, .var 40 [.nil, .nil, .nil, .nil, .nil, .d false (.i .i64 0), .d false (.i .i64 0), .d false (.i .i64 0), .d false (.i .i64 0), .d false (.i .i64 0)])], 213⟩ ?_ ?_
  · have H := Hj
    refine wkz ?_
    refine g2 rfl rfl rfl (fun h => ?_) (fun h => ?_)
    · have H := bt h H
      refine wkz ?_
      cases H
      exact weak_of ⟨rfl, rfl, rfl, rfl, rfl, rfl, rfl, rfl, rfl, rfl, rfl, rfl, trivial⟩ ⟨rfl, ⟨rfl, rfl⟩, rfl, ⟨rfl, rfl⟩, rfl, ⟨rfl, rfl⟩, trivial⟩
    · have H := bf h H
      refine wkz ?_
      obtain ⟨r3, hr3, H⟩ := ob H
      refine awr_ng rfl rfl rfl rfl (ca rfl rfl rfl (sIsValidSubscription_c hr3) trivial rfl rfl rfl rfl) ?_
      refine wkz ?_
      refine g2 rfl rfl rfl (fun h => ?_) (fun h => ?_)
      · have H := bt h H
        refine wkz ?_
        cases H
        exact weak_of ⟨rfl, rfl, rfl, rfl, rfl, rfl, rfl, rfl, rfl, rfl, rfl, rfl, trivial⟩ ⟨rfl, ⟨rfl, rfl⟩, rfl, ⟨rfl, rfl⟩, rfl, ⟨rfl, rfl⟩, trivial⟩
      · have H := bf h H
        refine wkz ?_
        obtain ⟨r4, hr4, H⟩ := ob H
        refine awr_ng rfl rfl rfl rfl (ca rfl rfl rfl (sl32Records_c hr4) trivial rfl rfl rfl rfl) ?_
        refine wkz ?_
        cases H
        exact weak_of ⟨rfl, rfl, rfl, rfl, rfl, rfl, rfl, rfl, rfl, rfl, rfl, rfl, trivial⟩ ⟨rfl, ⟨rfl, rfl⟩, rfl, ⟨rfl, rfl⟩, rfl, ⟨rfl, rfl⟩, trivial⟩
  refine wkz ?_
  refine awc_cond rfl (fun h => ?_) (fun h => ?_)
  · have H := bt h H
    refine wkz ?_
    cases H
    refine clo_v ((weak_nnV (o := 212) (j := 0) 102 2 true rfl rfl rfl rfl rfl)) ?_
    refine clo_v ((weak_nnV (o := 212) (j := 1) 52 14 true rfl rfl rfl rfl rfl)) ?_
    refine clo_v ((weak_nnV (o := 212) (j := 2) 65 30 true rfl rfl rfl rfl rfl)) ?_
    refine clo_v ((weak_nnV (o := 212) (j := 3) 68 4 true rfl rfl rfl rfl rfl)) ?_
    refine clo_v (weak_swp (p := 213) (q := 210) rfl rfl rfl rfl) ?_
    refine clo_v (weak_swp (p := 214) (q := 211) rfl rfl rfl rfl) ?_
    refine clo_v (weak_swp (p := 215) (q := 212) rfl rfl rfl rfl) ?_
    refine clo_v (weak_swp (p := 216) (q := 213) rfl rfl rfl rfl) ?_
    refine clo_v ((weak_wnB (o := 210) (n := ([] : List TCell).length) rfl rfl (by repeat (first | exact trivial | refine ⟨by first | rfl | simp, ?_⟩)) (by repeat (first | exact trivial | refine ⟨by first | rfl | simp, ?_⟩)))) ?_
    refine clo_v ((weak_wnB (o := 211) (n := ([] : List TDevice).length) rfl rfl (by repeat (first | exact trivial | refine ⟨by first | rfl | simp, ?_⟩)) (by repeat (first | exact trivial | refine ⟨by first | rfl | simp, ?_⟩)))) ?_
    refine clo_v ((weak_wnB (o := 212) (n := ([] : List TSession).length) rfl rfl (by repeat (first | exact trivial | refine ⟨by first | rfl | simp, ?_⟩)) (by repeat (first | exact trivial | refine ⟨by first | rfl | simp, ?_⟩)))) ?_
    refine clo_v ((weak_wnB (o := 213) (n := ([] : List TAccount).length) rfl rfl (by repeat (first | exact trivial | refine ⟨by first | rfl | simp, ?_⟩)) (by repeat (first | exact trivial | refine ⟨by first | rfl | simp, ?_⟩)))) ?_
    exact fin_retV (.cons (.cell rfl rfl rfl) .nil) rfl (by first | rfl | simp) trivial ⟨rfl, rfl, rfl, rfl, trivial⟩
  · have H := bf h H
    refine wkz ?_
    obtain ⟨r5, hr5, H⟩ := ob H
    refine awr_step rfl (cwv [] [(210, 213)] 214 (sl10Copy_c hr5) rfl rfl rfl rfl rfl rfl rfl rfl rfl rfl rfl rfl rfl rfl) ?_
    refine wkz ?_
    obtain ⟨⟨v14, v15, v16⟩, Hj, H⟩ := ob H
    refine awc_jblk ⟨[(8, .v (.c (.p 212 0))), (9, .v (.c (.p 214 0)))], [(212, .var 40 [.nil, .nil, .nil, .nil, .nil, .d false (.i .i64 0), .d false (.i .i64 0), .d false (.i .i64 0), .d false (.i .i64 0), .d false (.i .i64 0)]), (213, .rown 102 2 (r5.Cells.map eTCell) true), (214, .var 40 [.wn 213 r5.Cells.length, .wn 215 v16.length, .wn 216 v15.length, .wn 217 v14.length, .nil, .d false (.i .i64 0), .d false (.i .i64 2), .d false (.i .i64 3), .d false (.i .i64 0), .d false (.i .i64 0)]), (215, .rown 52 14 (v16.map eTDevice) true), (216, .rown 65 30 (v15.map eTSession) true), (217, .rown 68 4 (v14.map eTAccount) true)], 218⟩ ?_ ?_
    · refine wkz ?_
      refine awc_iter (fun (q : Int × List TAccount × List TSession × List TDevice) => ⟨[(1, .v (.c (.d false (.l (a1.map eTSubscriberRecord))))), (3, tI a3), (4, .v (.c (.p 210 0))), (6, .v (.c (.p 211 0))), (8, .v (.c (.p 212 0))), (9, .v (.c (.p 214 0))), (10, tI q.1)], [(210, .var 26 [.d false (.l (a0.Cells.map eTCell))]), (211, .var 30 [.d false (.i .i64 a2.RateLimit), .d false (.i .i64 a2.BestClass), .d false (.i .i64 a2.GrantSize), .d false (.l (a2.RoamingNetworks.map eI))]), (212, .var 40 [.nil, .nil, .nil, .nil, .nil, .d false (.i .i64 0), .d false (.i .i64 0), .d false (.i .i64 0), .d false (.i .i64 0), .d false (.i .i64 0)]), (213, .rown 102 2 (r5.Cells.map eTCell) true), (214, .var 40 [.wn 213 r5.Cells.length, .wn 215 q.2.2.2.length, .wn 216 q.2.2.1.length, .wn 217 q.2.1.length, .nil, .d false (.i .i64 0), .d false (.i .i64 2), .d false (.i .i64 3), .d false (.i .i64 0), .d false (.i .i64 0)]), (215, .rown 52 14 (q.2.2.2.map eTDevice) true), (216, .rown 65 30 (q.2.2.1.map eTSession) true), (217, .rown 68 4 (q.2.1.map eTAccount) true)], 218⟩) Hj (by refine weak_trans (weak_nnV (o := 214) (j := 1) 52 14 true rfl rfl rfl rfl rfl) ?_; refine weak_trans (weak_nnV (o := 214) (j := 2) 65 30 true rfl rfl rfl rfl rfl) ?_; refine weak_trans (weak_nnV (o := 214) (j := 3) 68 4 true rfl rfl rfl rfl rfl) ?_; refine weak_trans (weak_wnB (o := 215) (n := ([] : List TDevice).length) rfl rfl (by repeat (first | exact trivial | refine ⟨by first | rfl | simp, ?_⟩)) (by repeat (first | exact trivial | refine ⟨by first | rfl | simp, ?_⟩))) ?_; refine weak_trans (weak_wnB (o := 216) (n := ([] : List TSession).length) rfl rfl (by repeat (first | exact trivial | refine ⟨by first | rfl | simp, ?_⟩)) (by repeat (first | exact trivial | refine ⟨by first | rfl | simp, ?_⟩))) ?_; refine weak_trans (weak_wnB (o := 217) (n := ([] : List TAccount).length) rfl rfl (by repeat (first | exact trivial | refine ⟨by first | rfl | simp, ?_⟩)) (by repeat (first | exact trivial | refine ⟨by first | rfl | simp, ?_⟩))) ?_; exact weak_of ⟨rfl, rfl, rfl, rfl, rfl, rfl, rfl, rfl, rfl, rfl, rfl, rfl, rfl, rfl, trivial⟩ ⟨rfl, ⟨rfl, rfl⟩, rfl, ⟨rfl, rfl⟩, rfl, ⟨rfl, rfl⟩, rfl, ⟨rfl, rfl⟩, rfl, ⟨rfl, rfl⟩, rfl, ⟨rfl, rfl⟩, rfl, ⟨rfl, rfl⟩, rfl, ⟨rfl, rfl⟩, trivial⟩) ?_
      rintro ⟨v6, v7, v8, v9⟩ o H
      try dsimp only
      refine wkz ?_
      refine awc_cond rfl (fun h => ?_) (fun h => ?_)
      · have H := bt h H
        refine wkz ?_
        obtain ⟨x17, hx17, H⟩ := ob H
        refine awr_n rfl (xdT (enc := eTSubscriberRecord) hx17 (fun _ => rfl) rfl rfl rfl) ?_
        refine wkz ?_
        refine awc_dz [0, 1, 2, 3, 4, 5, 6, 7, 8, 9, 10, 11, 12, 13, 14, 15, 16, 17, 18] Try.follows (by kernel_rfl) (by kernel_rfl) rfl ?_
        refine wkz ?_
        obtain ⟨h, H⟩ := rq H
        refine dz_n rfl (ir rfl rfl rfl (ne0 h)) ?_
        refine wkz ?_
        obtain ⟨r18, hr18, H⟩ := ob H
        refine dz_n rfl (ca rfl rfl rfl (sNewDevice_c hr18) trivial rfl rfl rfl rfl) ?_
        refine wkz ?_
        obtain ⟨h, H⟩ := rq H
        refine dz_bar (by kernel_rfl) rfl (by kernel_rfl) weak_id (bo_n rfl (apTn (enc := eTDevice) (ys := v9) (zs := [(⟨r18.Card, r18.State, r18.Cell, r18.Generation, r18.RootKey, r18.Epoch, r18.PathConfirmed, r18.Wait, (⟨r18.Receiver.Next, [], []⟩ : TReceiveWindow)⟩ : TDevice)]) h (by first | exact List.cons_ne_nil _ _ | simp) rfl (fun _ => rfl) (by first | rfl | simp) (.w rfl (by first | rfl | exact lm _ | simp)) rfl rfl rfl rfl rfl rfl rfl rfl rfl rfl)) weak_id rfl ?_
        refine wkz ?_
        refine dz_w rfl (spx 100140 rfl rfl rfl rfl rfl rfl rfl rfl) ?_
        refine wkz ?_
        refine awc_dz [0, 1, 2, 3, 4, 5, 6, 7, 8, 9] Try.follows (by kernel_rfl) (by kernel_rfl) rfl ?_
        refine wkz ?_
        obtain ⟨r19, hr19, H⟩ := ob H
        refine dz_n rfl (ca rfl rfl rfl ((sNewSession_c hr19).frzs (by repeat (first | exact trivial | refine ⟨?_, ?_⟩ | exact lm _ | rfl))) trivial rfl rfl rfl rfl) ?_
        refine wkz ?_
        obtain ⟨h, H⟩ := rq H
        refine dz_bar (by kernel_rfl) rfl (by kernel_rfl) weak_id (bo_n rfl (apTn (enc := eTSession) (ys := v8) (zs := [(⟨r19.Record, r19.Plan, r19.State, r19.Pending, r19.PendingSeq, r19.Generation, r19.RootKey, r19.Epoch, r19.Cell, r19.Quiet, r19.Page, [], (⟨r19.Window.Next, []⟩ : TSendWindow), r19.Retry, r19.Usage⟩ : TSession)]) h (by first | exact List.cons_ne_nil _ _ | simp) rfl (fun _ => rfl) (by first | rfl | simp) (.w rfl (by first | rfl | exact lm _ | simp)) rfl rfl rfl rfl rfl rfl rfl rfl rfl rfl)) weak_id rfl ?_
        refine wkz ?_
        refine dz_w rfl (spx 100139 rfl rfl rfl rfl rfl rfl rfl rfl) ?_
        refine wkz ?_
        refine awc_dz [0, 1, 2, 3, 4, 5, 6, 7] Try.follows (by kernel_rfl) (by kernel_rfl) rfl ?_
        refine wkz ?_
        obtain ⟨r20, hr20, H⟩ := ob H
        refine dz_n rfl (ca rfl rfl rfl (sNewAccount_c hr20) trivial rfl rfl rfl rfl) ?_
        refine wkz ?_
        obtain ⟨h, H⟩ := rq H
        refine dz_bar (by kernel_rfl) rfl (by kernel_rfl) weak_id (bo_n rfl (apTn (enc := eTAccount) (ys := v7) (zs := [(⟨r20.Total, r20.Available, r20.Spent, []⟩ : TAccount)]) h (by first | exact List.cons_ne_nil _ _ | simp) rfl (fun _ => rfl) (by first | rfl | simp) (.w rfl (by first | rfl | exact lm _ | simp)) rfl rfl rfl rfl rfl rfl rfl rfl rfl rfl)) weak_id rfl ?_
        refine wkz ?_
        refine dz_w rfl (spx 100138 rfl rfl rfl rfl rfl rfl rfl rfl) ?_
        refine wkz ?_
        cases H
        refine iq_n ?_
        refine weak_trans (weak_toN 215 rfl rfl rfl) ?_
        refine weak_trans (weak_toN 216 rfl rfl rfl) ?_
        refine weak_trans (weak_toN 217 rfl rfl rfl) ?_
        exact weak_of ⟨rfl, rfl, rfl, rfl, rfl, rfl, rfl, rfl, rfl, rfl, rfl, rfl, rfl, rfl, trivial⟩ ⟨rfl, ⟨rfl, rfl⟩, rfl, ⟨rfl, rfl⟩, rfl, ⟨rfl, rfl⟩, rfl, ⟨rfl, rfl⟩, rfl, ⟨rfl, rfl⟩, rfl, ⟨rfl, rfl⟩, rfl, ⟨rfl, rfl⟩, rfl, ⟨rfl, rfl⟩, trivial⟩
      · have H := bf h H
        refine wkz ?_
        cases H
        refine iq_e (fun hq => ?_)
        cases hq
        refine wkz ?_
        exact weak_of ⟨rfl, rfl, rfl, rfl, trivial⟩ ⟨rfl, ⟨rfl, rfl⟩, rfl, ⟨rfl, rfl⟩, rfl, ⟨rfl, rfl⟩, rfl, ⟨rfl, rfl⟩, rfl, ⟨rfl, rfl⟩, rfl, ⟨rfl, rfl⟩, trivial⟩
    refine wkz ?_
    cases H
    refine clo_v (weak_swp (p := 213) (q := 210) rfl rfl rfl rfl) ?_
    refine clo_v (weak_swp (p := 215) (q := 211) rfl rfl rfl rfl) ?_
    refine clo_v (weak_swp (p := 216) (q := 212) rfl rfl rfl rfl) ?_
    refine clo_v (weak_swp (p := 217) (q := 213) rfl rfl rfl rfl) ?_
    exact fin_retV (.cons (.cell rfl rfl rfl) .nil) rfl (by first | rfl | simp) trivial ⟨rfl, rfl, rfl, rfl, trivial⟩
def sMin (a0 : Int) (a1 : Int) : Option Int :=
  bif ltB a1 a0 then (some a1) else (some a0)
theorem sMin_c {a0 : Int} {a1 : Int} {r : Int} (H : sMin a0 a1 = some r) : Fn Tryz.prog 97 [aI a0, aI a1] [.c (.d (.i .i64 r))] := by
  refine fn_in Tryz.func97 rfl (by kernel_rfl) Tryz.ntmps97 rfl rfl rfl ?_
  refine wk ?_
  refine awc_cond rfl (fun h => ?_) (fun h => ?_)
  · have H := bt h H
    refine wk ?_
    cases H
    exact fin_ret (.cons (.tmp rfl) .nil) rfl rfl rfl
  · have H := bf h H
    refine wk ?_
    cases H
    exact fin_ret (.cons (.tmp rfl) .nil) rfl rfl rfl
def sl34Has (a0 : TNetwork) (a1 : Int) : Option Bool :=
  Option.bind (sMin ((a0.Devices.length : Nat) : Int) ((a0.Sessions.length : Nat) : Int)) fun r1 => Option.bind (sl1In a1 0 (WR (r1 - 1))) fun r2 => some r2
theorem sl34Has_c {a0 : TNetwork} {a1 : Int} {r : Bool} (H : sl34Has a0 a1 = some r) : Fn Tryz.prog 67 [.agg (eTNetwork a0), aI a1] [.c (.d (.b r))] := by
  refine fn_in Tryz.func67 rfl (by kernel_rfl) Tryz.ntmps67 rfl rfl rfl ?_
  refine wk ?_
  obtain ⟨r1, hr1, H⟩ := ob H
  refine awr_n rfl (ca rfl rfl rfl (sMin_c hr1) trivial rfl rfl rfl rfl) ?_
  refine wk ?_
  obtain ⟨r2, hr2, H⟩ := ob H
  refine awr_n rfl (ca rfl rfl rfl (sl1In_c hr2) trivial rfl rfl rfl rfl) ?_
  refine wk ?_
  cases H
  exact fin_ret (.cons (.tmp rfl) .nil) rfl rfl rfl
def sl15Same_L1 (a0 : List TPayload) (a1 : List TPayload) : Int → Option (Step (Int) (Bool))
  | v1 => bif ltB v1 ((a0.length : Nat) : Int) then (Option.bind (ix a0 v1) fun x2 => Option.bind (ix a1 v1) fun x3 => Option.bind (sEqualBytes x2.Data x3.Data) fun r4 => bif !r4 then (dn (some false)) else (some (.next (WR (v1 + 1))))) else (dn (some true))
def sl15Same (a0 : List TPayload) (a1 : List TPayload) : Option Bool :=
  bif !eqB ((a0.length : Nat) : Int) ((a1.length : Nat) : Int) then (some false) else (iter (sl15Same_L1 a0 a1) FU 0)
theorem sl15Same_c {a0 : List TPayload} {a1 : List TPayload} {r : Bool} (H : sl15Same a0 a1 = some r) : Fn Tryz.prog 98 [aL (a0.map eTPayload), aL (a1.map eTPayload)] [.c (.d (.b r))] := by
  refine fn_in Tryz.func98 rfl (by kernel_rfl) Tryz.ntmps98 rfl rfl rfl ?_
  refine wkd ?_
  refine awc_cond rfl (fun h => ?_) (fun h => ?_)
  · have H := bt h H
    refine wkd ?_
    cases H
    exact fin_ret (.cons (.tmp rfl) .nil) rfl rfl rfl
  · have H := bf h H
    refine wkd ?_
    refine awc_iter (fun (q : Int) => ⟨[(0, .v (.c (.d false (.l (a0.map eTPayload))))), (1, .v (.c (.d false (.l (a1.map eTPayload))))), (5, tI q)], [], 0⟩) H (weak_of ⟨rfl, rfl, rfl, rfl, rfl, rfl, trivial⟩ trivial) ?_
    rintro v1 o H
    try dsimp only
    refine wkd ?_
    refine awc_cond rfl (fun h => ?_) (fun h => ?_)
    · have H := bt h H
      refine wkd ?_
      obtain ⟨x2, hx2, H⟩ := ob H
      refine dr_n rfl (xdT (enc := eTPayload) hx2 (fun _ => rfl) rfl rfl rfl) ?_
      refine wkd ?_
      obtain ⟨x3, hx3, H⟩ := ob H
      refine dr_n rfl (xdT (enc := eTPayload) hx3 (fun _ => rfl) rfl rfl rfl) ?_
      refine wkd ?_
      obtain ⟨r4, hr4, H⟩ := ob H
      refine dr_n rfl (ca rfl rfl rfl (sEqualBytes_c hr4) trivial rfl rfl rfl rfl) ?_
      refine wkd ?_
      refine awc_cond rfl (fun h => ?_) (fun h => ?_)
      · have H := bt h H
        refine wkd ?_
        obtain ⟨r0, Hd, rfl⟩ := dnE H
        refine iq_r (fun hq => ?_)
        have H := Hd.trans (congrArg some hq)
        refine wkd ?_
        cases H
        exact fin_ret (.cons (.tmp rfl) .nil) rfl rfl rfl
      · have H := bf h H
        refine wkd ?_
        cases H
        refine iq_n ?_
        exact weak_of ⟨rfl, rfl, rfl, rfl, rfl, rfl, trivial⟩ trivial
    · have H := bf h H
      refine wkd ?_
      obtain ⟨r0, Hd, rfl⟩ := dnE H
      refine iq_e (fun hq => ?_)
      have H := Hd.trans (congrArg some hq)
      refine wkd ?_
      cases H
      exact fin_ret (.cons (.tmp rfl) .nil) rfl rfl rfl
def sIsPrefixOf (a0 : List TPayload) (a1 : List TPayload) : Option Bool :=
  Option.bind (bif leB ((a0.length : Nat) : Int) ((a1.length : Nat) : Int) then (bif slOk a1 0 ((a0.length : Nat) : Int) then (Option.bind (sl15Same a0 (a1.take (((a0.length : Nat) : Int)).toNat)) fun r2 => some r2) else none) else (some false)) fun (v1 : Bool) => some v1
theorem sIsPrefixOf_c {a0 : List TPayload} {a1 : List TPayload} {r : Bool} (H : sIsPrefixOf a0 a1 = some r) : Fn Tryz.prog 68 [aL (a0.map eTPayload), aL (a1.map eTPayload)] [.c (.d (.b r))] := by
  refine fn_in Tryz.func68 rfl (by kernel_rfl) Tryz.ntmps68 rfl rfl rfl ?_
  refine wk ?_
  obtain ⟨v1, Hj, H⟩ := ob H
  refine awr_join ⟨[(4, tB v1)], [], 0⟩ ?_ ?_
  · have H := Hj
    refine wk ?_
    refine g2 rfl rfl rfl (fun h => ?_) (fun h => ?_)
    · have H := bt h H
      refine wk ?_
      obtain ⟨h, H⟩ := rq H
      refine awr_ng rfl rfl rfl rfl (cdhT (enc := eTPayload) h (fun _ => rfl) rfl rfl rfl) ?_
      refine wk ?_
      obtain ⟨r2, hr2, H⟩ := ob H
      refine awr_ng rfl rfl rfl rfl (ca rfl rfl rfl (sl15Same_c hr2) trivial rfl rfl rfl rfl) ?_
      refine wk ?_
      cases H
      exact weak_of ⟨rfl, rfl, trivial⟩ trivial
    · have H := bf h H
      refine wk ?_
      cases H
      exact weak_of ⟨rfl, rfl, trivial⟩ trivial
  refine wk ?_
  cases H
  exact fin_ret (.cons (.tmp rfl) .nil) rfl rfl rfl
def sDeliveredInOrder (a0 : TNetwork) (a1 : Int) : Option Bool :=
  Option.bind (sl34Has a0 a1) fun r1 => Option.bind (bif r1 then (Option.bind (ix a0.Devices a1) fun x3 => Option.bind (ix a0.Sessions a1) fun x4 => Option.bind (sIsPrefixOf x3.Receiver.Delivered x4.Submitted) fun r5 => some r5) else (some false)) fun (v2 : Bool) => some v2
theorem sDeliveredInOrder_c {a0 : TNetwork} {a1 : Int} {r : Bool} (H : sDeliveredInOrder a0 a1 = some r) : Fn Tryz.prog 40 [.agg (eTNetwork a0), aI a1] [.c (.d (.b r))] := by
  refine fn_in Tryz.func40 rfl (by kernel_rfl) Tryz.ntmps40 rfl rfl rfl ?_
  refine wkd ?_
  obtain ⟨r1, hr1, H⟩ := ob H
  refine dr_n rfl (ca rfl rfl rfl (sl34Has_c hr1) trivial rfl rfl rfl rfl) ?_
  refine wkd ?_
  obtain ⟨v2, Hj, H⟩ := ob H
  refine dr_join ⟨[(4, tB v2)], [], 0⟩ ?_ ?_
  · have H := Hj
    refine wkd ?_
    refine dg2 rfl rfl rfl (fun h => ?_) (fun h => ?_)
    · have H := bt h H
      refine wkd ?_
      obtain ⟨x3, hx3, H⟩ := ob H
      refine dr_ng rfl rfl rfl rfl (xdT (enc := eTDevice) hx3 (fun _ => rfl) rfl rfl rfl) ?_
      refine wkd ?_
      obtain ⟨x4, hx4, H⟩ := ob H
      refine dr_ng rfl rfl rfl rfl (xdT (enc := eTSession) hx4 (fun _ => rfl) rfl rfl rfl) ?_
      refine wkd ?_
      obtain ⟨r5, hr5, H⟩ := ob H
      refine dr_ng rfl rfl rfl rfl (ca rfl rfl rfl (sIsPrefixOf_c hr5) trivial rfl rfl rfl rfl) ?_
      refine wkd ?_
      cases H
      exact weak_of ⟨rfl, rfl, trivial⟩ trivial
    · have H := bf h H
      refine wkd ?_
      cases H
      exact weak_of ⟨rfl, rfl, trivial⟩ trivial
  refine wkd ?_
  cases H
  exact fin_ret (.cons (.tmp rfl) .nil) rfl rfl rfl
def sl34Account (a0 : TNetwork) (a1 : Int) : Option Bool :=
  Option.bind (sMin ((a0.Accounts.length : Nat) : Int) ((a0.Sessions.length : Nat) : Int)) fun r1 => Option.bind (sl1In a1 0 (WR (r1 - 1))) fun r2 => some r2
theorem sl34Account_c {a0 : TNetwork} {a1 : Int} {r : Bool} (H : sl34Account a0 a1 = some r) : Fn Tryz.prog 69 [.agg (eTNetwork a0), aI a1] [.c (.d (.b r))] := by
  refine fn_in Tryz.func69 rfl (by kernel_rfl) Tryz.ntmps69 rfl rfl rfl ?_
  refine wk ?_
  obtain ⟨r1, hr1, H⟩ := ob H
  refine awr_n rfl (ca rfl rfl rfl (sMin_c hr1) trivial rfl rfl rfl rfl) ?_
  refine wk ?_
  obtain ⟨r2, hr2, H⟩ := ob H
  refine awr_n rfl (ca rfl rfl rfl (sl1In_c hr2) trivial rfl rfl rfl rfl) ?_
  refine wk ?_
  cases H
  exact fin_ret (.cons (.tmp rfl) .nil) rfl rfl rfl
def sChargedBytes (a0 : TNetwork) (a1 : Int) : Option Int :=
  Option.bind (sl34Account a0 a1) fun r1 => bif !r1 then (some (-1)) else (Option.bind (ix a0.Accounts a1) fun x2 => Option.bind (ix a0.Sessions a1) fun x3 => some (WR (x2.Spent + x3.Usage.Used)))
theorem sChargedBytes_c {a0 : TNetwork} {a1 : Int} {r : Int} (H : sChargedBytes a0 a1 = some r) : Fn Tryz.prog 70 [.agg (eTNetwork a0), aI a1] [.c (.d (.i .i64 r))] := by
  refine fn_in Tryz.func70 rfl (by kernel_rfl) Tryz.ntmps70 rfl rfl rfl ?_
  refine wkd ?_
  obtain ⟨r1, hr1, H⟩ := ob H
  refine awr_n rfl (ca rfl rfl rfl (sl34Account_c hr1) trivial rfl rfl rfl rfl) ?_
  refine wkd ?_
  refine awc_cond rfl (fun h => ?_) (fun h => ?_)
  · have H := bt h H
    refine wkd ?_
    cases H
    exact fin_ret (.cons (.tmp rfl) .nil) rfl rfl rfl
  · have H := bf h H
    refine wkd ?_
    obtain ⟨x2, hx2, H⟩ := ob H
    refine dr_n rfl (xdT (enc := eTAccount) hx2 (fun _ => rfl) rfl rfl rfl) ?_
    refine wkd ?_
    obtain ⟨x3, hx3, H⟩ := ob H
    refine dr_n rfl (xdT (enc := eTSession) hx3 (fun _ => rfl) rfl rfl rfl) ?_
    refine wkd ?_
    cases H
    exact fin_ret (.cons (.tmp rfl) .nil) rfl rfl rfl
def sBytesOfFirst_L1 (a0 : TSession) (a1 : Int) : (Int × Int) → Option (Step (Int × Int) (Int))
  | (v1, v2) => Option.bind (bif ltB v2 ((a0.Submitted.length : Nat) : Int) then (some (ltB v2 a1)) else (some false)) fun (v6 : Bool) => bif v6 then (Option.bind (ix a0.Submitted v2) fun x7 => some (.next (WR (v1 + ((x7.Data.length : Nat) : Int)), WR (v2 + 1)))) else (some (.done v1))
def sBytesOfFirst (a0 : TSession) (a1 : Int) : Option Int :=
  Option.bind (iter (sBytesOfFirst_L1 a0 a1) FU (0, 0)) fun (v5 : Int) => some v5
theorem sBytesOfFirst_c {a0 : TSession} {a1 : Int} {r : Int} (H : sBytesOfFirst a0 a1 = some r) : Fn Tryz.prog 71 [.agg (eTSession a0), aI a1] [.c (.d (.i .i64 r))] := by
  refine fn_in Tryz.func71 rfl (by kernel_rfl) Tryz.ntmps71 rfl rfl rfl ?_
  refine wk ?_
  obtain ⟨v5, Hj, H⟩ := ob H
  refine awc_jblk ⟨[(5, tI v5)], [], 0⟩ ?_ ?_
  · refine wk ?_
    refine awc_iter (fun (q : Int × Int) => ⟨[(1, tI a1), (2, .v (.c (.p 0 0))), (5, tI q.1), (6, tI q.2)], [(0, .var 65 [.d false (.i .i64 a0.Record.ID.Network), .d false (.i .i64 a0.Record.ID.Number), .d false (.i .i64 a0.Record.Key), .d false (.i .i64 a0.Record.Seq), .d false (.i .i64 a0.Plan.RateLimit), .d false (.i .i64 a0.Plan.BestClass), .d false (.i .i64 a0.Plan.GrantSize), .d false (.l (a0.Plan.RoamingNetworks.map eI)), .d false (.i .i64 a0.State), .d false (.i .i64 a0.Pending.Rand), .d false (.i .i64 a0.Pending.Autn), .d false (.i .i64 a0.Pending.MAC), .d false (.i .i64 a0.Pending.Res), .d false (.i .i64 a0.Pending.Key), .d false (.i .i64 a0.PendingSeq), .d false (.i .i64 a0.Generation), .d false (.i .i64 a0.RootKey), .d false (.i .i64 a0.Epoch), .d false (.i .i64 a0.Cell), .d false (.i .i64 a0.Quiet), .d false (.i .i64 a0.Page.Area), .d false (.i .i64 a0.Page.Attempt), .d false (.i .i64 a0.Page.Wait), .d false (.l (a0.Submitted.map eTPayload)), .d false (.i .i64 a0.Window.Next), .d false (.l (a0.Window.Unacked.map eTNumberedPacket)), .d false (.i .i64 a0.Retry), .d false (.i .i64 a0.Usage.SessionID), .d false (.i .i64 a0.Usage.Granted), .d false (.i .i64 a0.Usage.Used)])], 1⟩) Hj (weak_of ⟨rfl, rfl, rfl, rfl, rfl, rfl, rfl, rfl, trivial⟩ ⟨rfl, ⟨rfl, rfl⟩, trivial⟩) ?_
    rintro ⟨v1, v2⟩ o H
    try dsimp only
    refine wk ?_
    obtain ⟨v6, Hj, H⟩ := ob H
    refine awr_join ⟨[(1, tI a1), (2, .v (.c (.p 0 0))), (5, tI v1), (6, tI v2), (16, tB v6)], [(0, .var 65 [.d false (.i .i64 a0.Record.ID.Network), .d false (.i .i64 a0.Record.ID.Number), .d false (.i .i64 a0.Record.Key), .d false (.i .i64 a0.Record.Seq), .d false (.i .i64 a0.Plan.RateLimit), .d false (.i .i64 a0.Plan.BestClass), .d false (.i .i64 a0.Plan.GrantSize), .d false (.l (a0.Plan.RoamingNetworks.map eI)), .d false (.i .i64 a0.State), .d false (.i .i64 a0.Pending.Rand), .d false (.i .i64 a0.Pending.Autn), .d false (.i .i64 a0.Pending.MAC), .d false (.i .i64 a0.Pending.Res), .d false (.i .i64 a0.Pending.Key), .d false (.i .i64 a0.PendingSeq), .d false (.i .i64 a0.Generation), .d false (.i .i64 a0.RootKey), .d false (.i .i64 a0.Epoch), .d false (.i .i64 a0.Cell), .d false (.i .i64 a0.Quiet), .d false (.i .i64 a0.Page.Area), .d false (.i .i64 a0.Page.Attempt), .d false (.i .i64 a0.Page.Wait), .d false (.l (a0.Submitted.map eTPayload)), .d false (.i .i64 a0.Window.Next), .d false (.l (a0.Window.Unacked.map eTNumberedPacket)), .d false (.i .i64 a0.Retry), .d false (.i .i64 a0.Usage.SessionID), .d false (.i .i64 a0.Usage.Granted), .d false (.i .i64 a0.Usage.Used)])], 1⟩ ?_ ?_
    · have H := Hj
      refine wk ?_
      refine g2 rfl rfl rfl (fun h => ?_) (fun h => ?_)
      · have H := bt h H
        refine wk ?_
        cases H
        exact weak_of ⟨rfl, rfl, rfl, rfl, rfl, rfl, rfl, rfl, rfl, rfl, trivial⟩ ⟨rfl, ⟨rfl, rfl⟩, trivial⟩
      · have H := bf h H
        refine wk ?_
        cases H
        exact weak_of ⟨rfl, rfl, rfl, rfl, rfl, rfl, rfl, rfl, rfl, rfl, trivial⟩ ⟨rfl, ⟨rfl, rfl⟩, trivial⟩
    refine wk ?_
    refine awc_cond rfl (fun h => ?_) (fun h => ?_)
    · have H := bt h H
      refine wk ?_
      obtain ⟨x7, hx7, H⟩ := ob H
      refine awr_n rfl (xdT (enc := eTPayload) hx7 (fun _ => rfl) rfl rfl rfl) ?_
      refine wk ?_
      cases H
      refine iq_n ?_
      exact weak_of ⟨rfl, rfl, rfl, rfl, rfl, rfl, rfl, rfl, trivial⟩ ⟨rfl, ⟨rfl, rfl⟩, trivial⟩
    · have H := bf h H
      refine wk ?_
      cases H
      refine iq_e (fun hq => ?_)
      cases hq
      refine wk ?_
      exact weak_of ⟨rfl, rfl, trivial⟩ trivial
  refine wk ?_
  cases H
  exact fin_ret (.cons (.tmp rfl) .nil) rfl rfl rfl
def sAcknowledgedPackets (a0 : TSession) : Option Int :=
  some (WR ((WR (a0.Window.Next - 1)) - ((a0.Window.Unacked.length : Nat) : Int)))
theorem sAcknowledgedPackets_c {a0 : TSession} {r : Int} (H : sAcknowledgedPackets a0 = some r) : Fn Tryz.prog 72 [.agg (eTSession a0)] [.c (.d (.i .i64 r))] := by
  refine fn_in Tryz.func72 rfl (by kernel_rfl) Tryz.ntmps72 rfl rfl rfl ?_
  refine wk ?_
  cases H
  exact fin_ret (.cons (.tmp rfl) .nil) rfl rfl rfl
def sChargedExactlyOnce (a0 : TNetwork) (a1 : Int) : Option Bool :=
  Option.bind (sl34Account a0 a1) fun r1 => Option.bind (bif r1 then (Option.bind (sChargedBytes a0 a1) fun r3 => Option.bind (ix a0.Sessions a1) fun x4 => Option.bind (ix a0.Sessions a1) fun x5 => Option.bind (sAcknowledgedPackets x5) fun r6 => Option.bind (sBytesOfFirst x4 r6) fun r7 => some (eqB r3 r7)) else (some false)) fun (v2 : Bool) => some v2
theorem sChargedExactlyOnce_c {a0 : TNetwork} {a1 : Int} {r : Bool} (H : sChargedExactlyOnce a0 a1 = some r) : Fn Tryz.prog 41 [.agg (eTNetwork a0), aI a1] [.c (.d (.b r))] := by
  refine fn_in Tryz.func41 rfl (by kernel_rfl) Tryz.ntmps41 rfl rfl rfl ?_
  refine wkd ?_
  obtain ⟨r1, hr1, H⟩ := ob H
  refine dr_n rfl (ca rfl rfl rfl (sl34Account_c hr1) trivial rfl rfl rfl rfl) ?_
  refine wkd ?_
  obtain ⟨v2, Hj, H⟩ := ob H
  refine dr_join ⟨[(4, tB v2)], [], 0⟩ ?_ ?_
  · have H := Hj
    refine wkd ?_
    refine dg2 rfl rfl rfl (fun h => ?_) (fun h => ?_)
    · have H := bt h H
      refine wkd ?_
      obtain ⟨r3, hr3, H⟩ := ob H
      refine dr_ng rfl rfl rfl rfl (ca rfl rfl rfl (sChargedBytes_c hr3) trivial rfl rfl rfl rfl) ?_
      refine wkd ?_
      obtain ⟨x4, hx4, H⟩ := ob H
      refine dr_ng rfl rfl rfl rfl (xdT (enc := eTSession) hx4 (fun _ => rfl) rfl rfl rfl) ?_
      refine wkd ?_
      obtain ⟨x5, hx5, H⟩ := ob H
      refine dr_ng rfl rfl rfl rfl (xdT (enc := eTSession) hx5 (fun _ => rfl) rfl rfl rfl) ?_
      refine wkd ?_
      obtain ⟨r6, hr6, H⟩ := ob H
      refine dr_ng rfl rfl rfl rfl (ca rfl rfl rfl (sAcknowledgedPackets_c hr6) trivial rfl rfl rfl rfl) ?_
      refine wkd ?_
      obtain ⟨r7, hr7, H⟩ := ob H
      refine dr_ng rfl rfl rfl rfl (ca rfl rfl rfl (sBytesOfFirst_c hr7) trivial rfl rfl rfl rfl) ?_
      refine wkd ?_
      cases H
      exact weak_of ⟨rfl, rfl, trivial⟩ trivial
    · have H := bf h H
      refine wkd ?_
      cases H
      exact weak_of ⟨rfl, rfl, trivial⟩ trivial
  refine wkd ?_
  cases H
  exact fin_ret (.cons (.tmp rfl) .nil) rfl rfl rfl
def sAcknowledgedWereDelivered (a0 : TNetwork) (a1 : Int) : Option Bool :=
  Option.bind (sl34Has a0 a1) fun r1 => Option.bind (bif r1 then (Option.bind (ix a0.Sessions a1) fun x3 => Option.bind (sAcknowledgedPackets x3) fun r4 => Option.bind (ix a0.Devices a1) fun x5 => some (leB r4 ((x5.Receiver.Delivered.length : Nat) : Int))) else (some false)) fun (v2 : Bool) => some v2
theorem sAcknowledgedWereDelivered_c {a0 : TNetwork} {a1 : Int} {r : Bool} (H : sAcknowledgedWereDelivered a0 a1 = some r) : Fn Tryz.prog 42 [.agg (eTNetwork a0), aI a1] [.c (.d (.b r))] := by
  refine fn_in Tryz.func42 rfl (by kernel_rfl) Tryz.ntmps42 rfl rfl rfl ?_
  refine wkd ?_
  obtain ⟨r1, hr1, H⟩ := ob H
  refine dr_n rfl (ca rfl rfl rfl (sl34Has_c hr1) trivial rfl rfl rfl rfl) ?_
  refine wkd ?_
  obtain ⟨v2, Hj, H⟩ := ob H
  refine dr_join ⟨[(4, tB v2)], [], 0⟩ ?_ ?_
  · have H := Hj
    refine wkd ?_
    refine dg2 rfl rfl rfl (fun h => ?_) (fun h => ?_)
    · have H := bt h H
      refine wkd ?_
      obtain ⟨x3, hx3, H⟩ := ob H
      refine dr_ng rfl rfl rfl rfl (xdT (enc := eTSession) hx3 (fun _ => rfl) rfl rfl rfl) ?_
      refine wkd ?_
      obtain ⟨r4, hr4, H⟩ := ob H
      refine dr_ng rfl rfl rfl rfl (ca rfl rfl rfl (sAcknowledgedPackets_c hr4) trivial rfl rfl rfl rfl) ?_
      refine wkd ?_
      obtain ⟨x5, hx5, H⟩ := ob H
      refine dr_ng rfl rfl rfl rfl (xdT (enc := eTDevice) hx5 (fun _ => rfl) rfl rfl rfl) ?_
      refine wkd ?_
      cases H
      exact weak_of ⟨rfl, rfl, trivial⟩ trivial
    · have H := bf h H
      refine wkd ?_
      cases H
      exact weak_of ⟨rfl, rfl, trivial⟩ trivial
  refine wkd ?_
  cases H
  exact fin_ret (.cons (.tmp rfl) .nil) rfl rfl rfl
def sAudit_L1 (a0 : TNetwork) : Int → Option (Step (Int) (Bool))
  | v1 => bif ltB v1 ((a0.Devices.length : Nat) : Int) then (Option.bind (sDeliveredInOrder a0 v1) fun r2 => Option.bind (bif !r2 then (some true) else (Option.bind (sChargedExactlyOnce a0 v1) fun r4 => bif !r4 then (some true) else (Option.bind (sAcknowledgedWereDelivered a0 v1) fun r5 => some (!r5)))) fun (v3 : Bool) => bif v3 then (dn (some false)) else (some (.next (WR (v1 + 1))))) else (dn (Option.bind (sIsValidNetwork a0) fun r6 => some r6))
def sAudit (a0 : TNetwork) : Option Bool :=
  iter (sAudit_L1 a0) FU 0
theorem sAudit_c {a0 : TNetwork} {r : Bool} (H : sAudit a0 = some r) : Fn Tryz.prog 10 [.agg (eTNetwork a0)] [.c (.d (.b r))] := by
  refine fn_in Tryz.func10 rfl (by kernel_rfl) Tryz.ntmps10 rfl rfl rfl ?_
  refine wk ?_
  refine awc_iter (fun (q : Int) => ⟨[(1, .v (.c (.p 0 0))), (3, tI q)], [(0, .var 40 [.d false (.l (a0.Map.Cells.map eTCell)), .d false (.l (a0.Devices.map eTDevice)), .d false (.l (a0.Sessions.map eTSession)), .d false (.l (a0.Accounts.map eTAccount)), .d false (.l (a0.Flights.map eTFlight)), .d false (.i .i64 a0.DownCells), .d false (.i .i64 a0.Core.Size), .d false (.i .i64 a0.Core.UpMask), .d false (.i .i64 a0.Now), .d false (.i .i64 a0.Lost)])], 1⟩) H (weak_of ⟨rfl, rfl, rfl, rfl, trivial⟩ ⟨rfl, ⟨rfl, rfl⟩, trivial⟩) ?_
  rintro v1 o H
  try dsimp only
  refine wk ?_
  refine awc_cond rfl (fun h => ?_) (fun h => ?_)
  · have H := bt h H
    refine wk ?_
    obtain ⟨r2, hr2, H⟩ := ob H
    refine awr_n rfl (ca rfl rfl rfl (sDeliveredInOrder_c hr2) trivial rfl rfl rfl rfl) ?_
    refine wk ?_
    obtain ⟨v3, Hj, H⟩ := ob H
    refine awr_join ⟨[(1, .v (.c (.p 0 0))), (3, tI v1), (26, tB v3)], [(0, .var 40 [.d false (.l (a0.Map.Cells.map eTCell)), .d false (.l (a0.Devices.map eTDevice)), .d false (.l (a0.Sessions.map eTSession)), .d false (.l (a0.Accounts.map eTAccount)), .d false (.l (a0.Flights.map eTFlight)), .d false (.i .i64 a0.DownCells), .d false (.i .i64 a0.Core.Size), .d false (.i .i64 a0.Core.UpMask), .d false (.i .i64 a0.Now), .d false (.i .i64 a0.Lost)])], 1⟩ ?_ ?_
    · have H := Hj
      refine wk ?_
      refine g2 rfl rfl rfl (fun h => ?_) (fun h => ?_)
      · have H := bt h H
        refine wk ?_
        cases H
        exact weak_of ⟨rfl, rfl, rfl, rfl, rfl, rfl, trivial⟩ ⟨rfl, ⟨rfl, rfl⟩, trivial⟩
      · have H := bf h H
        refine wk ?_
        obtain ⟨r4, hr4, H⟩ := ob H
        refine awr_ng rfl rfl rfl rfl (ca rfl rfl rfl (sChargedExactlyOnce_c hr4) trivial rfl rfl rfl rfl) ?_
        refine wk ?_
        refine g2 rfl rfl rfl (fun h => ?_) (fun h => ?_)
        · have H := bt h H
          refine wk ?_
          cases H
          exact weak_of ⟨rfl, rfl, rfl, rfl, rfl, rfl, trivial⟩ ⟨rfl, ⟨rfl, rfl⟩, trivial⟩
        · have H := bf h H
          refine wk ?_
          obtain ⟨r5, hr5, H⟩ := ob H
          refine awr_ng rfl rfl rfl rfl (ca rfl rfl rfl (sAcknowledgedWereDelivered_c hr5) trivial rfl rfl rfl rfl) ?_
          refine wk ?_
          cases H
          exact weak_of ⟨rfl, rfl, rfl, rfl, rfl, rfl, trivial⟩ ⟨rfl, ⟨rfl, rfl⟩, trivial⟩
    refine wk ?_
    refine awc_cond rfl (fun h => ?_) (fun h => ?_)
    · have H := bt h H
      refine wk ?_
      obtain ⟨r0, Hd, rfl⟩ := dnE H
      refine iq_r (fun hq => ?_)
      have H := Hd.trans (congrArg some hq)
      refine wk ?_
      cases H
      exact fin_ret (.cons (.tmp rfl) .nil) rfl rfl rfl
    · have H := bf h H
      refine wk ?_
      cases H
      refine iq_n ?_
      exact weak_of ⟨rfl, rfl, rfl, rfl, trivial⟩ ⟨rfl, ⟨rfl, rfl⟩, trivial⟩
  · have H := bf h H
    refine wk ?_
    obtain ⟨r0, Hd, rfl⟩ := dnE H
    refine iq_e (fun hq => ?_)
    have H := Hd.trans (congrArg some hq)
    refine wk ?_
    obtain ⟨r6, hr6, H⟩ := ob H
    refine awr_n rfl (ca rfl rfl rfl (sIsValidNetwork_c hr6) trivial rfl rfl rfl rfl) ?_
    refine wk ?_
    cases H
    exact fin_ret (.cons (.tmp rfl) .nil) rfl rfl rfl
end Go.AM
