/-
  Own text: a part of the abstract machine for this seat (Has). No statement is proved here.
-/
import Derived.Test.YtnhgchfpccpcdaaHai
set_option linter.unusedVariables false
namespace Go.AM
open Go.Proofs
attribute [local irreducible] AWN NS AWO AWR AWC DR Weak iterQ
set_option maxRecDepth 100000
set_option maxHeartbeats 4000000
def sFormatPayload_L1 (a0 : List Int) : (ByteArray × Int) → Option (Step (ByteArray × Int) (ByteArray))
  | (v1, v2) => bif ltB v2 ((a0.length : Nat) : Int) then (Option.bind (ix a0 v2) fun x8 => Option.bind (ix a0 v2) fun x9 => bif ssOk (⟨#[48, 49, 50, 51, 52, 53, 54, 55, 56, 57, 97, 98, 99, 100, 101, 102]⟩ : ByteArray) (bShr .u8 x8 4) (IntKind.u8.wrap ((bShr .u8 x9 4) + 1)) then (bif saOk v1 ((⟨#[48, 49, 50, 51, 52, 53, 54, 55, 56, 57, 97, 98, 99, 100, 101, 102]⟩ : ByteArray).extract (bShr .u8 x8 4).toNat (IntKind.u8.wrap ((bShr .u8 x9 4) + 1)).toNat) then (Option.bind (ix a0 v2) fun x10 => Option.bind (ix a0 v2) fun x11 => bif ssOk (⟨#[48, 49, 50, 51, 52, 53, 54, 55, 56, 57, 97, 98, 99, 100, 101, 102]⟩ : ByteArray) (bAnd .u8 x10 15) (IntKind.u8.wrap ((bAnd .u8 x11 15) + 1)) then (bif saOk (v1 ++ ((⟨#[48, 49, 50, 51, 52, 53, 54, 55, 56, 57, 97, 98, 99, 100, 101, 102]⟩ : ByteArray).extract (bShr .u8 x8 4).toNat (IntKind.u8.wrap ((bShr .u8 x9 4) + 1)).toNat)) ((⟨#[48, 49, 50, 51, 52, 53, 54, 55, 56, 57, 97, 98, 99, 100, 101, 102]⟩ : ByteArray).extract (bAnd .u8 x10 15).toNat (IntKind.u8.wrap ((bAnd .u8 x11 15) + 1)).toNat) then (some (.next ((v1 ++ ((⟨#[48, 49, 50, 51, 52, 53, 54, 55, 56, 57, 97, 98, 99, 100, 101, 102]⟩ : ByteArray).extract (bShr .u8 x8 4).toNat (IntKind.u8.wrap ((bShr .u8 x9 4) + 1)).toNat)) ++ ((⟨#[48, 49, 50, 51, 52, 53, 54, 55, 56, 57, 97, 98, 99, 100, 101, 102]⟩ : ByteArray).extract (bAnd .u8 x10 15).toNat (IntKind.u8.wrap ((bAnd .u8 x11 15) + 1)).toNat), WR (v2 + 1)))) else none) else none) else none) else none) else (some (.done v1))
def sFormatPayload (a0 : List Int) : Option ByteArray :=
  Option.bind (iter (sFormatPayload_L1 a0) FU (⟨#[]⟩, 0)) fun (v7 : ByteArray) => bif eqB ((a0.length : Nat) : Int) 0 then (some ⟨#[45]⟩) else (some v7)
theorem sFormatPayload_c {a0 : List Int} {r : ByteArray} (H : sFormatPayload a0 = some r) : Fn Try.prog 11 [aL (a0.map eU8)] [.c (.d (.str r))] := by
  refine fn_in Try.func11 rfl (by kernel_rfl) Try.ntmps11 rfl rfl rfl ?_
  refine wkd ?_
  obtain ⟨v7, Hj, H⟩ := ob H
  refine awc_jblk ⟨[(0, .v (.c (.d false (.l (a0.map eU8))))), (4, tS v7)], [], 0⟩ ?_ ?_
  · refine wkd ?_
    refine awc_iter (fun (q : ByteArray × Int) => ⟨[(0, .v (.c (.d false (.l (a0.map eU8))))), (3, tS ⟨#[48, 49, 50, 51, 52, 53, 54, 55, 56, 57, 97, 98, 99, 100, 101, 102]⟩), (4, tS q.1), (5, tI q.2)], [], 0⟩) Hj (weak_of ⟨rfl, rfl, rfl, rfl, rfl, rfl, rfl, rfl, trivial⟩ trivial) ?_
    rintro ⟨v1, v2⟩ o H
    try dsimp only
    refine wkd ?_
    refine awc_cond rfl (fun h => ?_) (fun h => ?_)
    · have H := bt h H
      refine wkd ?_
      obtain ⟨x8, hx8, H⟩ := ob H
      refine dr_n rfl (xdT (enc := eU8) hx8 (fun _ => rfl) rfl rfl rfl) ?_
      refine wkd ?_
      refine dr_n rfl (ishL (b := 4) rfl rfl rfl rfl) ?_
      refine wkd ?_
      obtain ⟨x9, hx9, H⟩ := ob H
      refine dr_n rfl (xdT (enc := eU8) hx9 (fun _ => rfl) rfl rfl rfl) ?_
      refine wkd ?_
      refine dr_n rfl (ishL (b := 4) rfl rfl rfl rfl) ?_
      refine wkd ?_
      obtain ⟨h, H⟩ := rq H
      refine dr_n rfl (ss3 h rfl rfl rfl rfl) ?_
      refine wkd ?_
      obtain ⟨h, H⟩ := rq H
      refine dr_n rfl (saT h rfl rfl rfl) ?_
      refine wkd ?_
      obtain ⟨x10, hx10, H⟩ := ob H
      refine dr_n rfl (xdT (enc := eU8) hx10 (fun _ => rfl) rfl rfl rfl) ?_
      refine wkd ?_
      obtain ⟨x11, hx11, H⟩ := ob H
      refine dr_n rfl (xdT (enc := eU8) hx11 (fun _ => rfl) rfl rfl rfl) ?_
      refine wkd ?_
      obtain ⟨h, H⟩ := rq H
      refine dr_n rfl (ss3 h rfl rfl rfl rfl) ?_
      refine wkd ?_
      obtain ⟨h, H⟩ := rq H
      refine dr_n rfl (saT h rfl rfl rfl) ?_
      refine wkd ?_
      cases H
      refine iq_n ?_
      exact weak_of ⟨rfl, rfl, rfl, rfl, rfl, rfl, rfl, rfl, trivial⟩ trivial
    · have H := bf h H
      refine wkd ?_
      cases H
      refine iq_e (fun hq => ?_)
      cases hq
      refine wkd ?_
      exact weak_of ⟨rfl, rfl, rfl, rfl, trivial⟩ trivial
  refine wkd ?_
  refine awc_cond rfl (fun h => ?_) (fun h => ?_)
  · have H := bt h H
    refine wkd ?_
    cases H
    exact fin_ret (.cons (.tmp rfl) .nil) rfl rfl rfl
  · have H := bf h H
    refine wkd ?_
    cases H
    exact fin_ret (.cons (.tmp rfl) .nil) rfl rfl rfl
def sl1New_L1 (a0 : List Int) : (Int × Int) → Option (Step (Int × Int) (Int))
  | (v1, v2) => Option.bind (bif ltB v2 ((a0.length : Nat) : Int) then (some (ltB v2 4000)) else (some false)) fun (v6 : Bool) => bif v6 then (Option.bind (ix a0 v2) fun x7 => some (.next (bAnd .i64 (WR ((WR ((WR (v1 * 137)) + (WR (x7)))) + 11)) 1073741823, WR (v2 + 1)))) else (some (.done v1))
def sl1New (a0 : List Int) : Option Tl1Cur :=
  Option.bind (iter (sl1New_L1 a0) FU (WR (193017 + ((a0.length : Nat) : Int)), 0)) fun (v5 : Int) => some (⟨a0, 0, v5⟩ : Tl1Cur)
theorem sl1New_c {a0 : List Int} {r : Tl1Cur} (H : sl1New a0 = some r) : FnN Try.prog 81 [aL (a0.map eU8)] 168 (eTl1Cur r) := by
  refine fn_inN Try.func81 rfl (by kernel_rfl) Try.ntmps81 rfl rfl rfl ?_
  refine wk ?_
  obtain ⟨v5, Hj, H⟩ := ob H
  refine awc_jblk ⟨[(0, .v (.c (.d false (.l (a0.map eU8))))), (3, tI v5)], [], 0⟩ ?_ ?_
  · refine wk ?_
    refine awc_iter (fun (q : Int × Int) => ⟨[(0, .v (.c (.d false (.l (a0.map eU8))))), (3, tI q.1), (4, tI q.2)], [], 0⟩) Hj (weak_of ⟨rfl, rfl, rfl, rfl, rfl, rfl, trivial⟩ trivial) ?_
    rintro ⟨v1, v2⟩ o H
    try dsimp only
    refine wk ?_
    obtain ⟨v6, Hj, H⟩ := ob H
    refine awr_join ⟨[(0, .v (.c (.d false (.l (a0.map eU8))))), (3, tI v1), (4, tI v2), (15, tB v6)], [], 0⟩ ?_ ?_
    · have H := Hj
      refine wk ?_
      refine g2 rfl rfl rfl (fun h => ?_) (fun h => ?_)
      · have H := bt h H
        refine wk ?_
        cases H
        exact weak_of ⟨rfl, rfl, rfl, rfl, rfl, rfl, rfl, rfl, trivial⟩ trivial
      · have H := bf h H
        refine wk ?_
        cases H
        exact weak_of ⟨rfl, rfl, rfl, rfl, rfl, rfl, rfl, rfl, trivial⟩ trivial
    refine wk ?_
    refine awc_cond rfl (fun h => ?_) (fun h => ?_)
    · have H := bt h H
      refine wk ?_
      obtain ⟨x7, hx7, H⟩ := ob H
      refine awr_n rfl (xdT (enc := eU8) hx7 (fun _ => rfl) rfl rfl rfl) ?_
      refine wk ?_
      cases H
      refine iq_n ?_
      exact weak_of ⟨rfl, rfl, rfl, rfl, rfl, rfl, trivial⟩ trivial
    · have H := bf h H
      refine wk ?_
      cases H
      refine iq_e (fun hq => ?_)
      cases hq
      refine wk ?_
      exact weak_of ⟨rfl, rfl, rfl, rfl, trivial⟩ trivial
  refine wk ?_
  cases H
  exact fin_retN rfl rfl rfl rfl rfl rfl
def sl1Byte (a0 : Tl1Cur) : Option (Int × Tl1Cur) :=
  Option.bind (bif ltB a0.fi ((a0.fb.length : Nat) : Int) then (Option.bind (ix a0.fb a0.fi) fun x3 => some (bAnd .i64 (WR ((bAnd .i64 (bXor .i64 (bShr .i64 (WR ((WR (a0.fh * 6364136223846793005)) + 1442695040888963407)) 33) (bShr .i64 (WR ((WR (a0.fh * 6364136223846793005)) + 1442695040888963407)) 47)) 255) + (WR (x3)))) 255, WR (a0.fi + 1))) else (some (bAnd .i64 (bXor .i64 (bShr .i64 (WR ((WR (a0.fh * 6364136223846793005)) + 1442695040888963407)) 33) (bShr .i64 (WR ((WR (a0.fh * 6364136223846793005)) + 1442695040888963407)) 47)) 255, a0.fi))) fun ((v1, v2) : Int × Int) => some (v1, (⟨a0.fb, v2, WR ((WR (a0.fh * 6364136223846793005)) + 1442695040888963407)⟩ : Tl1Cur))
theorem sl1Byte_c {a0 : Tl1Cur} {r : Int × Tl1Cur} (H : sl1Byte a0 = some r) : FnW Try.prog 139 (.var 168 [.d false (.l (a0.fb.map eU8)), .d false (.i .i64 a0.fi), .d false (.i .i64 a0.fh)]) [.v (.c (.p 200 0))] (.var 168 [.d false (.l (r.2.fb.map eU8)), .d false (.i .i64 r.2.fi), .d false (.i .i64 r.2.fh)]) [.c (.d (.i .i64 r.1))] := by
  refine fn_inW Try.func139 rfl (by kernel_rfl) Try.ntmps139 rfl rfl rfl rfl rfl ?_
  refine wkd ?_
  refine dr_n rfl (ishL (b := 33) rfl rfl rfl rfl) ?_
  refine wkd ?_
  refine dr_n rfl (ishL (b := 47) rfl rfl rfl rfl) ?_
  refine wkd ?_
  obtain ⟨⟨v1, v2⟩, Hj, H⟩ := ob H
  refine awc_join ⟨[(3, tI v1)], [(200, .var 168 [.d false (.l (a0.fb.map eU8)), .d false (.i .i64 v2), .d false (.i .i64 (WR ((WR (a0.fh * 6364136223846793005)) + 1442695040888963407)))])], 210⟩ ?_ ?_
  · have H := Hj
    refine wkd ?_
    refine awc_cond rfl (fun h => ?_) (fun h => ?_)
    · have H := bt h H
      refine wkd ?_
      obtain ⟨x3, hx3, H⟩ := ob H
      refine dr_n rfl (xdT (enc := eU8) hx3 (fun _ => rfl) rfl rfl rfl) ?_
      refine wkd ?_
      cases H
      exact weak_of ⟨rfl, rfl, trivial⟩ ⟨rfl, ⟨rfl, rfl⟩, trivial⟩
    · have H := bf h H
      refine wkd ?_
      cases H
      exact weak_of ⟨rfl, rfl, trivial⟩ ⟨rfl, ⟨rfl, rfl⟩, trivial⟩
  refine wkd ?_
  cases H
  exact fin_retW (.cons (.tmp rfl) .nil) rfl rfl rfl rfl (by first | rfl | simp)
def sl1Below (a0 : Tl1Cur) (a1 : Int) : Option (Int × Tl1Cur) :=
  bif leB a1 0 then (some (0, a0)) else (bif leB a1 256 then (Option.bind (sl1Byte a0) fun r1 => bif !eqB a1 0 then (some (Int.tmod r1.1 a1, r1.2)) else none) else (Option.bind (sl1Byte a0) fun r2 => Option.bind (sl1Byte r2.2) fun r3 => Option.bind (sl1Byte r3.2) fun r4 => bif !eqB a1 0 then (some (Int.tmod (WR ((WR ((WR (r2.1 * 65536)) + (WR (r3.1 * 256)))) + r4.1)) a1, r4.2)) else none))
theorem sl1Below_c {a0 : Tl1Cur} {a1 : Int} {r : Int × Tl1Cur} (H : sl1Below a0 a1 = some r) : FnW Try.prog 86 (.var 168 [.d false (.l (a0.fb.map eU8)), .d false (.i .i64 a0.fi), .d false (.i .i64 a0.fh)]) [.v (.c (.p 200 0)), tI a1] (.var 168 [.d false (.l (r.2.fb.map eU8)), .d false (.i .i64 r.2.fi), .d false (.i .i64 r.2.fh)]) [.c (.d (.i .i64 r.1))] := by
  refine fn_inW Try.func86 rfl (by kernel_rfl) Try.ntmps86 rfl rfl rfl rfl rfl ?_
  refine wk ?_
  refine awc_cond rfl (fun h => ?_) (fun h => ?_)
  · have H := bt h H
    refine wk ?_
    cases H
    exact fin_retW (.cons (.tmp rfl) .nil) rfl rfl rfl rfl (by first | rfl | simp)
  · have H := bf h H
    refine wk ?_
    refine awc_cond rfl (fun h => ?_) (fun h => ?_)
    · have H := bt h H
      refine wk ?_
      obtain ⟨r1, hr1, H⟩ := ob H
      refine awr_step rfl (cw (o := 200) (sl1Byte_c hr1) rfl rfl rfl rfl rfl rfl trivial rfl rfl rfl rfl) ?_
      refine wk ?_
      obtain ⟨h, H⟩ := rq H
      refine awr_n rfl (ir rfl rfl rfl (ne0 h)) ?_
      refine wk ?_
      cases H
      exact fin_retW (.cons (.tmp rfl) .nil) rfl rfl rfl rfl (by first | rfl | simp)
    · have H := bf h H
      refine wk ?_
      obtain ⟨r2, hr2, H⟩ := ob H
      refine awr_step rfl (cw (o := 200) (sl1Byte_c hr2) rfl rfl rfl rfl rfl rfl trivial rfl rfl rfl rfl) ?_
      refine wk ?_
      obtain ⟨r3, hr3, H⟩ := ob H
      refine awr_step rfl (cw (o := 200) (sl1Byte_c hr3) rfl rfl rfl rfl rfl rfl trivial rfl rfl rfl rfl) ?_
      refine wk ?_
      obtain ⟨r4, hr4, H⟩ := ob H
      refine awr_step rfl (cw (o := 200) (sl1Byte_c hr4) rfl rfl rfl rfl rfl rfl trivial rfl rfl rfl rfl) ?_
      refine wk ?_
      obtain ⟨h, H⟩ := rq H
      refine awr_n rfl (ir rfl rfl rfl (ne0 h)) ?_
      refine wk ?_
      cases H
      exact fin_retW (.cons (.tmp rfl) .nil) rfl rfl rfl rfl (by first | rfl | simp)
def sl1Once (a0 : Tl1Cur) (a1 : Int) : Option (Bool × Tl1Cur) :=
  Option.bind (sl1Below a0 a1) fun r1 => some (eqB r1.1 0, r1.2)
theorem sl1Once_c {a0 : Tl1Cur} {a1 : Int} {r : Bool × Tl1Cur} (H : sl1Once a0 a1 = some r) : FnW Try.prog 134 (.var 168 [.d false (.l (a0.fb.map eU8)), .d false (.i .i64 a0.fi), .d false (.i .i64 a0.fh)]) [.v (.c (.p 200 0)), tI a1] (.var 168 [.d false (.l (r.2.fb.map eU8)), .d false (.i .i64 r.2.fi), .d false (.i .i64 r.2.fh)]) [.c (.d (.b r.1))] := by
  refine fn_inW Try.func134 rfl (by kernel_rfl) Try.ntmps134 rfl rfl rfl rfl rfl ?_
  refine wk ?_
  obtain ⟨r1, hr1, H⟩ := ob H
  refine awr_step rfl (cw (o := 200) (sl1Below_c hr1) rfl rfl rfl rfl rfl rfl trivial rfl rfl rfl rfl) ?_
  refine wk ?_
  cases H
  exact fin_retW (.cons (.tmp rfl) .nil) rfl rfl rfl rfl (by first | rfl | simp)
def sl1Int (a0 : Tl1Cur) (a1 : List Int) : Option (Int × Tl1Cur) :=
  Option.bind (sl1Below a0 ((a1.length : Nat) : Int)) fun r1 => Option.bind (ix a1 r1.1) fun x2 => some (x2, r1.2)
theorem sl1Int_c {a0 : Tl1Cur} {a1 : List Int} {r : Int × Tl1Cur} (H : sl1Int a0 a1 = some r) : FnW Try.prog 136 (.var 168 [.d false (.l (a0.fb.map eU8)), .d false (.i .i64 a0.fi), .d false (.i .i64 a0.fh)]) [.v (.c (.p 200 0)), .v (.c (.d false (.l (a1.map eI))))] (.var 168 [.d false (.l (r.2.fb.map eU8)), .d false (.i .i64 r.2.fi), .d false (.i .i64 r.2.fh)]) [.c (.d (.i .i64 r.1))] := by
  refine fn_inW Try.func136 rfl (by kernel_rfl) Try.ntmps136 rfl rfl rfl rfl rfl ?_
  refine wk ?_
  obtain ⟨r1, hr1, H⟩ := ob H
  refine awr_step rfl (cw (o := 200) (sl1Below_c hr1) rfl rfl rfl rfl rfl rfl trivial rfl rfl rfl rfl) ?_
  refine wk ?_
  obtain ⟨x2, hx2, H⟩ := ob H
  refine awr_n rfl (xdT (enc := eI) hx2 (fun _ => rfl) rfl rfl rfl) ?_
  refine wk ?_
  cases H
  exact fin_retW (.cons (.tmp rfl) .nil) rfl rfl rfl rfl (by first | rfl | simp)
def sl38Lines_L1  : (Int × List Int × Int × Int × List TStatementLine) → Option (Step (Int × List Int × Int × Int × List TStatementLine) (List Int × Int × Int × List TStatementLine))
  | (v2, v3, v4, v5, v6) => bif ltB 0 v2 then (Option.bind (sl1Below (⟨v3, v4, v5⟩ : Tl1Cur) 4) fun r14 => Option.bind (sl1Below r14.2 4) fun r15 => Option.bind (sl1Below r15.2 50) fun r16 => bif apOk 24 (v6 ++ [(⟨r14.1, r15.1, r16.1⟩ : TStatementLine)]).length then (some (.next (WR (v2 - 1), r16.2.fb, r16.2.fi, r16.2.fh, (v6 ++ [(⟨r14.1, r15.1, r16.1⟩ : TStatementLine)])))) else none) else (some (.done (v3, v4, v5, v6)))
def sl38Lines (a0 : Tl1Cur) : Option (List TStatementLine × Tl1Cur) :=
  Option.bind (sl1Below a0 6) fun r1 => Option.bind (iter (sl38Lines_L1) FU (r1.1, r1.2.fb, r1.2.fi, r1.2.fh, ([] : List TStatementLine))) fun ((v10, v11, v12, v13) : List Int × Int × Int × List TStatementLine) => Option.bind (sl1Once (⟨v10, v11, v12⟩ : Tl1Cur) 8) fun r17 => Option.bind (bif r17.1 then (Option.bind (sl1Int r17.2 [-1, 4]) fun r22 => bif apOk 24 (v13 ++ [(⟨r22.1, 0, 5⟩ : TStatementLine)]).length then (some (r22.2.fb, r22.2.fi, r22.2.fh, (v13 ++ [(⟨r22.1, 0, 5⟩ : TStatementLine)]))) else none) else (some (r17.2.fb, r17.2.fi, r17.2.fh, v13))) fun ((v18, v19, v20, v21) : List Int × Int × Int × List TStatementLine) => some (v21, (⟨v18, v19, v20⟩ : Tl1Cur))
theorem sl38Lines_c {a0 : Tl1Cur} {r : List TStatementLine × Tl1Cur} (H : sl38Lines a0 = some r) : FnW Try.prog 132 (.var 168 [.d false (.l (a0.fb.map eU8)), .d false (.i .i64 a0.fi), .d false (.i .i64 a0.fh)]) [.v (.c (.p 200 0))] (.var 168 [.d false (.l (r.2.fb.map eU8)), .d false (.i .i64 r.2.fi), .d false (.i .i64 r.2.fh)]) [.c (.own 30 3 (r.1.map eTStatementLine) r.1.length)] := by
  refine fn_inW Try.func132 rfl (by kernel_rfl) Try.ntmps132 rfl rfl rfl rfl rfl ?_
  refine wk ?_
  obtain ⟨r1, hr1, H⟩ := ob H
  refine awr_step rfl (cw (o := 200) (sl1Below_c hr1) rfl rfl rfl rfl rfl rfl trivial rfl rfl rfl rfl) ?_
  refine wk ?_
  obtain ⟨⟨v10, v11, v12, v13⟩, Hj, H⟩ := ob H
  refine awc_jblk ⟨[(0, .v (.c (.p 200 0))), (3, .v (.c (.w 210 v13.length)))], [(200, .var 168 [.d false (.l (v10.map eU8)), .d false (.i .i64 v11), .d false (.i .i64 v12)]), (210, .row 30 3 (v13.map eTStatementLine) true true)], 211⟩ ?_ ?_
  · refine wk ?_
    refine awc_iter (fun (q : Int × List Int × Int × Int × List TStatementLine) => ⟨[(0, .v (.c (.p 200 0))), (3, .v (.c (.w 210 q.2.2.2.2.length))), (4, tI q.1)], [(200, .var 168 [.d false (.l (q.2.1.map eU8)), .d false (.i .i64 q.2.2.1), .d false (.i .i64 q.2.2.2.1)]), (210, .row 30 3 (q.2.2.2.2.map eTStatementLine) true true)], 211⟩) Hj (weak_of ⟨rfl, rfl, wn rfl (by first | rfl | simp), rfl, rfl, rfl, trivial⟩ ⟨rfl, ⟨rfl, rfl⟩, rfl, ⟨rfl, rfl⟩, trivial⟩) ?_
    rintro ⟨v2, v3, v4, v5, v6⟩ o H
    try dsimp only
    refine wk ?_
    refine awc_cond rfl (fun h => ?_) (fun h => ?_)
    · have H := bt h H
      refine wk ?_
      obtain ⟨r14, hr14, H⟩ := ob H
      refine awr_step rfl (cw (o := 200) (sl1Below_c hr14) rfl rfl rfl rfl rfl rfl trivial rfl rfl rfl rfl) ?_
      refine wk ?_
      obtain ⟨r15, hr15, H⟩ := ob H
      refine awr_step rfl (cw (o := 200) (sl1Below_c hr15) rfl rfl rfl rfl rfl rfl trivial rfl rfl rfl rfl) ?_
      refine wk ?_
      obtain ⟨r16, hr16, H⟩ := ob H
      refine awr_step rfl (cw (o := 200) (sl1Below_c hr16) rfl rfl rfl rfl rfl rfl trivial rfl rfl rfl rfl) ?_
      refine wk ?_
      obtain ⟨h, H⟩ := rq H
      refine awr_step rfl (apT (enc := eTStatementLine) (ys := v6) (zs := [(⟨r14.1, r15.1, r16.1⟩ : TStatementLine)]) h rfl (fun _ => rfl) (by first | rfl | simp) (.w rfl (by first | rfl | exact lm _ | simp)) rfl rfl rfl rfl rfl rfl rfl rfl) ?_
      refine wk ?_
      cases H
      refine iq_n ?_
      exact weak_of ⟨rfl, rfl, wn rfl (by first | rfl | simp), rfl, rfl, rfl, trivial⟩ ⟨rfl, ⟨rfl, rfl⟩, rfl, ⟨rfl, rfl⟩, trivial⟩
    · have H := bf h H
      refine wk ?_
      cases H
      refine iq_e (fun hq => ?_)
      cases hq
      refine wk ?_
      exact weak_of ⟨rfl, rfl, wn rfl (by first | rfl | simp), rfl, trivial⟩ ⟨rfl, ⟨rfl, rfl⟩, rfl, ⟨rfl, rfl⟩, trivial⟩
  refine wk ?_
  obtain ⟨r17, hr17, H⟩ := ob H
  refine awr_step rfl (cw (o := 200) (sl1Once_c hr17) rfl rfl rfl rfl rfl rfl trivial rfl rfl rfl rfl) ?_
  refine wk ?_
  obtain ⟨⟨v18, v19, v20, v21⟩, Hj, H⟩ := ob H
  refine awc_join ⟨[(3, .v (.c (.w 210 v21.length)))], [(200, .var 168 [.d false (.l (v18.map eU8)), .d false (.i .i64 v19), .d false (.i .i64 v20)]), (210, .row 30 3 (v21.map eTStatementLine) true true)], 211⟩ ?_ ?_
  · have H := Hj
    refine wk ?_
    refine awc_cond rfl (fun h => ?_) (fun h => ?_)
    · have H := bt h H
      refine wk ?_
      obtain ⟨r22, hr22, H⟩ := ob H
      refine awr_weak (weak_frz (o := 211) rfl rfl) ?_
      refine awr_weak (weak_cast (k := 26) rfl rfl ⟨by first | rfl | simp, trivial⟩) ?_
      refine awr_step rfl (cw (o := 200) (sl1Int_c hr22) rfl rfl rfl rfl rfl rfl trivial rfl rfl rfl rfl) ?_
      refine wk ?_
      obtain ⟨h, H⟩ := rq H
      refine awr_step rfl (apT (enc := eTStatementLine) (ys := v13) (zs := [(⟨r22.1, 0, 5⟩ : TStatementLine)]) h rfl (fun _ => rfl) (by first | rfl | simp) (.w rfl (by first | rfl | exact lm _ | simp)) rfl rfl rfl rfl rfl rfl rfl rfl) ?_
      refine wk ?_
      cases H
      exact weak_of ⟨wn rfl (by first | rfl | simp), rfl, trivial⟩ ⟨rfl, ⟨rfl, rfl⟩, rfl, ⟨rfl, rfl⟩, trivial⟩
    · have H := bf h H
      refine wk ?_
      cases H
      exact weak_of ⟨wn rfl (by first | rfl | simp), rfl, trivial⟩ ⟨rfl, ⟨rfl, rfl⟩, rfl, ⟨rfl, rfl⟩, trivial⟩
  refine wk ?_
  cases H
  exact fin_retW (.cons (.tmp rfl) .nil) rfl rfl (by first | rfl | simp) rfl (by first | rfl | simp)
def sDrawTotalTurnover (a0 : List Int) : Option (List TStatementLine) :=
  Option.bind (sl1New a0) fun r1 => Option.bind (sl38Lines r1) fun r2 => some r2.1
theorem sDrawTotalTurnover_c {a0 : List Int} {r : List TStatementLine} (H : sDrawTotalTurnover a0 = some r) : Fn Try.prog 79 [aL (a0.map eU8)] [.c (.own 30 3 (r.map eTStatementLine) r.length)] := by
  refine fn_in Try.func79 rfl (by kernel_rfl) Try.ntmps79 rfl rfl rfl ?_
  refine wk ?_
  obtain ⟨r1, hr1, H⟩ := ob H
  refine awr_n rfl (cn (sl1New_c hr1) rfl rfl trivial rfl rfl rfl) ?_
  refine wk ?_
  obtain ⟨r2, hr2, H⟩ := ob H
  refine awr_step rfl (cw (o := 0) (sl38Lines_c hr2) rfl rfl rfl rfl rfl rfl trivial rfl rfl rfl rfl) ?_
  refine wk ?_
  cases H
  exact fin_ret (.cons (.tmp rfl) .nil) rfl rfl (by first | rfl | simp)
def sDrawNetPayments (a0 : List Int) : Option (List TStatementLine) :=
  Option.bind (sDrawTotalTurnover a0) fun r1 => some r1
theorem sDrawNetPayments_c {a0 : List Int} {r : List TStatementLine} (H : sDrawNetPayments a0 = some r) : Fn Try.prog 16 [aL (a0.map eU8)] [.c (.own 30 3 (r.map eTStatementLine) r.length)] := by
  refine fn_in Try.func16 rfl (by kernel_rfl) Try.ntmps16 rfl rfl rfl ?_
  refine wk ?_
  obtain ⟨r1, hr1, H⟩ := ob H
  refine awr_n rfl (ca rfl rfl rfl (sDrawTotalTurnover_c hr1) trivial rfl rfl rfl rfl) ?_
  refine wk ?_
  cases H
  exact fin_ret (.cons (.tmp rfl) .nil) rfl rfl (by first | rfl | simp)
def sNetPosition_L1 (a0 : List TStatementLine) (a1 : Int) : (Int × Int) → Option (Step (Int × Int) (Int))
  | (v1, v2) => bif ltB v2 ((a0.length : Nat) : Int) then (Option.bind (ix a0 v2) fun x10 => Option.bind (bif eqB x10.Payee a1 then (Option.bind (ix a0 v2) fun x12 => some (WR (v1 + x12.Amount))) else (some v1)) fun (v11 : Int) => Option.bind (ix a0 v2) fun x13 => Option.bind (bif eqB x13.Payer a1 then (Option.bind (ix a0 v2) fun x15 => some (WR (v11 - x15.Amount))) else (some v11)) fun (v14 : Int) => some (.next (v14, WR (v2 + 1)))) else (some (.done v1))
def sNetPosition (a0 : List TStatementLine) (a1 : Int) : Option Int :=
  Option.bind (iter (sNetPosition_L1 a0 a1) FU (0, 0)) fun (v9 : Int) => some v9
theorem sNetPosition_c {a0 : List TStatementLine} {a1 : Int} {r : Int} (H : sNetPosition a0 a1 = some r) : Fn Try.prog 19 [aL (a0.map eTStatementLine), aI a1] [.c (.d (.i .i64 r))] := by
  refine fn_in Try.func19 rfl (by kernel_rfl) Try.ntmps19 rfl rfl rfl ?_
  refine wk ?_
  obtain ⟨v9, Hj, H⟩ := ob H
  refine awc_jblk ⟨[(5, tI v9)], [], 0⟩ ?_ ?_
  · refine wk ?_
    refine awc_iter (fun (q : Int × Int) => ⟨[(0, .v (.c (.d false (.l (a0.map eTStatementLine))))), (1, tI a1), (5, tI q.1), (6, tI q.2)], [], 0⟩) Hj (weak_of ⟨rfl, rfl, rfl, rfl, rfl, rfl, rfl, rfl, trivial⟩ trivial) ?_
    rintro ⟨v1, v2⟩ o H
    try dsimp only
    refine wk ?_
    refine awc_cond rfl (fun h => ?_) (fun h => ?_)
    · have H := bt h H
      refine wk ?_
      obtain ⟨x10, hx10, H⟩ := ob H
      refine awr_n rfl (xdT (enc := eTStatementLine) hx10 (fun _ => rfl) rfl rfl rfl) ?_
      refine wk ?_
      obtain ⟨v11, Hj, H⟩ := ob H
      refine awc_join ⟨[(0, .v (.c (.d false (.l (a0.map eTStatementLine))))), (1, tI a1), (5, tI v11), (6, tI v2)], [], 0⟩ ?_ ?_
      · have H := Hj
        refine wk ?_
        refine awc_cond rfl (fun h => ?_) (fun h => ?_)
        · have H := bt h H
          refine wk ?_
          obtain ⟨x12, hx12, H⟩ := ob H
          refine awr_n rfl (xdT (enc := eTStatementLine) hx12 (fun _ => rfl) rfl rfl rfl) ?_
          refine wk ?_
          cases H
          exact weak_of ⟨rfl, rfl, rfl, rfl, rfl, rfl, rfl, rfl, trivial⟩ trivial
        · have H := bf h H
          refine wk ?_
          cases H
          exact weak_of ⟨rfl, rfl, rfl, rfl, rfl, rfl, rfl, rfl, trivial⟩ trivial
      refine wk ?_
      obtain ⟨x13, hx13, H⟩ := ob H
      refine awr_n rfl (xdT (enc := eTStatementLine) hx13 (fun _ => rfl) rfl rfl rfl) ?_
      refine wk ?_
      obtain ⟨v14, Hj, H⟩ := ob H
      refine awc_join ⟨[(0, .v (.c (.d false (.l (a0.map eTStatementLine))))), (1, tI a1), (5, tI v14), (6, tI v2)], [], 0⟩ ?_ ?_
      · have H := Hj
        refine wk ?_
        refine awc_cond rfl (fun h => ?_) (fun h => ?_)
        · have H := bt h H
          refine wk ?_
          obtain ⟨x15, hx15, H⟩ := ob H
          refine awr_n rfl (xdT (enc := eTStatementLine) hx15 (fun _ => rfl) rfl rfl rfl) ?_
          refine wk ?_
          cases H
          exact weak_of ⟨rfl, rfl, rfl, rfl, rfl, rfl, rfl, rfl, trivial⟩ trivial
        · have H := bf h H
          refine wk ?_
          cases H
          exact weak_of ⟨rfl, rfl, rfl, rfl, rfl, rfl, rfl, rfl, trivial⟩ trivial
      refine wk ?_
      cases H
      refine iq_n ?_
      exact weak_of ⟨rfl, rfl, rfl, rfl, rfl, rfl, rfl, rfl, trivial⟩ trivial
    · have H := bf h H
      refine wk ?_
      cases H
      refine iq_e (fun hq => ?_)
      cases hq
      refine wk ?_
      exact weak_of ⟨rfl, rfl, trivial⟩ trivial
  refine wk ?_
  cases H
  exact fin_ret (.cons (.tmp rfl) .nil) rfl rfl rfl
def sTotalTurnover_L1 (a0 : List TStatementLine) : (Int × Int) → Option (Step (Int × Int) (Int))
  | (v1, v2) => bif ltB v2 ((a0.length : Nat) : Int) then (Option.bind (ix a0 v2) fun x5 => some (.next (WR (v1 + x5.Amount), WR (v2 + 1)))) else (some (.done v1))
def sTotalTurnover (a0 : List TStatementLine) : Option Int :=
  Option.bind (iter (sTotalTurnover_L1 a0) FU (0, 0)) fun (v4 : Int) => some v4
theorem sTotalTurnover_c {a0 : List TStatementLine} {r : Int} (H : sTotalTurnover a0 = some r) : Fn Try.prog 21 [aL (a0.map eTStatementLine)] [.c (.d (.i .i64 r))] := by
  refine fn_in Try.func21 rfl (by kernel_rfl) Try.ntmps21 rfl rfl rfl ?_
  refine wk ?_
  obtain ⟨v4, Hj, H⟩ := ob H
  refine awc_jblk ⟨[(3, tI v4)], [], 0⟩ ?_ ?_
  · refine wk ?_
    refine awc_iter (fun (q : Int × Int) => ⟨[(0, .v (.c (.d false (.l (a0.map eTStatementLine))))), (3, tI q.1), (4, tI q.2)], [], 0⟩) Hj (weak_of ⟨rfl, rfl, rfl, rfl, rfl, rfl, trivial⟩ trivial) ?_
    rintro ⟨v1, v2⟩ o H
    try dsimp only
    refine wk ?_
    refine awc_cond rfl (fun h => ?_) (fun h => ?_)
    · have H := bt h H
      refine wk ?_
      obtain ⟨x5, hx5, H⟩ := ob H
      refine awr_n rfl (xdT (enc := eTStatementLine) hx5 (fun _ => rfl) rfl rfl rfl) ?_
      refine wk ?_
      cases H
      refine iq_n ?_
      exact weak_of ⟨rfl, rfl, rfl, rfl, rfl, rfl, trivial⟩ trivial
    · have H := bf h H
      refine wk ?_
      cases H
      refine iq_e (fun hq => ?_)
      cases hq
      refine wk ?_
      exact weak_of ⟨rfl, rfl, trivial⟩ trivial
  refine wk ?_
  cases H
  exact fin_ret (.cons (.tmp rfl) .nil) rfl rfl rfl
def sIsPrefixPath_L1 (a0 : TKeyPath) (a1 : TKeyPath) : Int → Option (Step (Int) (Bool))
  | v1 => bif ltB v1 ((a0.Steps.length : Nat) : Int) then (Option.bind (ix a0.Steps v1) fun x2 => Option.bind (ix a1.Steps v1) fun x3 => bif !eqB x2 x3 then (dn (some false)) else (some (.next (WR (v1 + 1))))) else (dn (some true))
def sIsPrefixPath (a0 : TKeyPath) (a1 : TKeyPath) : Option Bool :=
  bif ltB ((a1.Steps.length : Nat) : Int) ((a0.Steps.length : Nat) : Int) then (some false) else (iter (sIsPrefixPath_L1 a0 a1) FU 0)
theorem sIsPrefixPath_c {a0 : TKeyPath} {a1 : TKeyPath} {r : Bool} (H : sIsPrefixPath a0 a1 = some r) : Fn Try.prog 142 [.agg (eTKeyPath a0), .agg (eTKeyPath a1)] [.c (.d (.b r))] := by
  refine fn_in Try.func142 rfl (by kernel_rfl) Try.ntmps142 rfl rfl rfl ?_
  refine wkd ?_
  refine awc_cond rfl (fun h => ?_) (fun h => ?_)
  · have H := bt h H
    refine wkd ?_
    cases H
    exact fin_ret (.cons (.tmp rfl) .nil) rfl rfl rfl
  · have H := bf h H
    refine wkd ?_
    refine awc_iter (fun (q : Int) => ⟨[(2, .v (.c (.p 0 0))), (3, .v (.c (.p 1 0))), (5, tI q)], [(0, .var 129 [.d false (.l (a0.Steps.map eI))]), (1, .var 129 [.d false (.l (a1.Steps.map eI))])], 2⟩) H (weak_of ⟨rfl, rfl, rfl, rfl, rfl, rfl, trivial⟩ ⟨rfl, ⟨rfl, rfl⟩, rfl, ⟨rfl, rfl⟩, trivial⟩) ?_
    rintro v1 o H
    try dsimp only
    refine wkd ?_
    refine awc_cond rfl (fun h => ?_) (fun h => ?_)
    · have H := bt h H
      refine wkd ?_
      obtain ⟨x2, hx2, H⟩ := ob H
      refine dr_n rfl (xdT (enc := eI) hx2 (fun _ => rfl) rfl rfl rfl) ?_
      refine wkd ?_
      obtain ⟨x3, hx3, H⟩ := ob H
      refine dr_n rfl (xdT (enc := eI) hx3 (fun _ => rfl) rfl rfl rfl) ?_
      refine wkd ?_
      refine awc_cond rfl (fun h => ?_) (fun h => ?_)
      · have H := bt h H
        refine wkd ?_
        obtain ⟨r0, Hd, rfl⟩ := dnE H
        refine iq_r (fun hq => ?_)
        have H := Hd.trans (congrArg some hq)
        refine wkd ?_
        cases H
        exact fin_ret (.cons (.tmp rfl) .nil) rfl rfl rfl
      · have H := bf h H
        refine wkd ?_
        cases H
        refine iq_n ?_
        exact weak_of ⟨rfl, rfl, rfl, rfl, rfl, rfl, trivial⟩ ⟨rfl, ⟨rfl, rfl⟩, rfl, ⟨rfl, rfl⟩, trivial⟩
    · have H := bf h H
      refine wkd ?_
      obtain ⟨r0, Hd, rfl⟩ := dnE H
      refine iq_e (fun hq => ?_)
      have H := Hd.trans (congrArg some hq)
      refine wkd ?_
      cases H
      exact fin_ret (.cons (.tmp rfl) .nil) rfl rfl rfl
def sExposes_L1 (a0 : List TLeakedKey) (a1 : Int) (a2 : TKeyPath) : Int → Option (Step (Int) (Bool))
  | v1 => bif ltB v1 ((a0.length : Nat) : Int) then (Option.bind (ix a0 v1) fun x2 => Option.bind (bif eqB x2.Generation a1 then (Option.bind (ix a0 v1) fun x4 => Option.bind (sIsPrefixPath x4.Path a2) fun r5 => some r5) else (some false)) fun (v3 : Bool) => bif v3 then (dn (some true)) else (some (.next (WR (v1 + 1))))) else (dn (some false))
def sExposes (a0 : List TLeakedKey) (a1 : Int) (a2 : TKeyPath) : Option Bool :=
  iter (sExposes_L1 a0 a1 a2) FU 0
theorem sExposes_c {a0 : List TLeakedKey} {a1 : Int} {a2 : TKeyPath} {r : Bool} (H : sExposes a0 a1 a2 = some r) : Fn Try.prog 93 [aL (a0.map eTLeakedKey), aI a1, .agg (eTKeyPath a2)] [.c (.d (.b r))] := by
  refine fn_in Try.func93 rfl (by kernel_rfl) Try.ntmps93 rfl rfl rfl ?_
  refine wkd ?_
  refine awc_iter (fun (q : Int) => ⟨[(0, .v (.c (.d false (.l (a0.map eTLeakedKey))))), (1, tI a1), (5, .v (.c (.p 0 0))), (7, tI q)], [(0, .var 129 [.d false (.l (a2.Steps.map eI))])], 1⟩) H (weak_of ⟨rfl, rfl, rfl, rfl, rfl, rfl, rfl, rfl, trivial⟩ ⟨rfl, ⟨rfl, rfl⟩, trivial⟩) ?_
  rintro v1 o H
  try dsimp only
  refine wkd ?_
  refine awc_cond rfl (fun h => ?_) (fun h => ?_)
  · have H := bt h H
    refine wkd ?_
    obtain ⟨x2, hx2, H⟩ := ob H
    refine dr_n rfl (xdT (enc := eTLeakedKey) hx2 (fun _ => rfl) rfl rfl rfl) ?_
    refine wkd ?_
    obtain ⟨v3, Hj, H⟩ := ob H
    refine dr_join ⟨[(0, .v (.c (.d false (.l (a0.map eTLeakedKey))))), (1, tI a1), (5, .v (.c (.p 0 0))), (7, tI v1), (29, tB v3)], [(0, .var 129 [.d false (.l (a2.Steps.map eI))])], 1⟩ ?_ ?_
    · have H := Hj
      refine wkd ?_
      refine dg2 rfl rfl rfl (fun h => ?_) (fun h => ?_)
      · have H := bt h H
        refine wkd ?_
        obtain ⟨x4, hx4, H⟩ := ob H
        refine dr_ng rfl rfl rfl rfl (xdT (enc := eTLeakedKey) hx4 (fun _ => rfl) rfl rfl rfl) ?_
        refine wkd ?_
        obtain ⟨r5, hr5, H⟩ := ob H
        refine dr_ng rfl rfl rfl rfl (ca rfl rfl rfl (sIsPrefixPath_c hr5) trivial rfl rfl rfl rfl) ?_
        refine wkd ?_
        cases H
        exact weak_of ⟨rfl, rfl, rfl, rfl, rfl, rfl, rfl, rfl, rfl, rfl, trivial⟩ ⟨rfl, ⟨rfl, rfl⟩, trivial⟩
      · have H := bf h H
        refine wkd ?_
        cases H
        exact weak_of ⟨rfl, rfl, rfl, rfl, rfl, rfl, rfl, rfl, rfl, rfl, trivial⟩ ⟨rfl, ⟨rfl, rfl⟩, trivial⟩
    refine wkd ?_
    refine awc_cond rfl (fun h => ?_) (fun h => ?_)
    · have H := bt h H
      refine wkd ?_
      obtain ⟨r0, Hd, rfl⟩ := dnE H
      refine iq_r (fun hq => ?_)
      have H := Hd.trans (congrArg some hq)
      refine wkd ?_
      cases H
      exact fin_ret (.cons (.tmp rfl) .nil) rfl rfl rfl
    · have H := bf h H
      refine wkd ?_
      cases H
      refine iq_n ?_
      exact weak_of ⟨rfl, rfl, rfl, rfl, rfl, rfl, rfl, rfl, trivial⟩ ⟨rfl, ⟨rfl, rfl⟩, trivial⟩
  · have H := bf h H
    refine wkd ?_
    obtain ⟨r0, Hd, rfl⟩ := dnE H
    refine iq_e (fun hq => ?_)
    have H := Hd.trans (congrArg some hq)
    refine wkd ?_
    cases H
    exact fin_ret (.cons (.tmp rfl) .nil) rfl rfl rfl
def sRadioKeyPath (a0 : Int) : Option TKeyPath :=
  some (⟨[1, 3, a0]⟩ : TKeyPath)
theorem sRadioKeyPath_c {a0 : Int} {r : TKeyPath} (H : sRadioKeyPath a0 = some r) : Fn Try.prog 94 [aI a0] [.agg [.own 3 1 (r.Steps.map eI) r.Steps.length]] := by
  refine fn_in Try.func94 rfl (by kernel_rfl) Try.ntmps94 rfl rfl rfl ?_
  refine wk ?_
  cases H
  exact fin_ret (.cons (.cell rfl rfl rfl) .nil) rfl rfl (by first | rfl | simp)
def sReadableEpochs_L1 (a0 : List TLeakedKey) (a1 : Int) (a2 : Int) : (Int × List Int) → Option (Step (Int × List Int) (List Int))
  | (v1, v2) => Option.bind (bif leB v1 a2 then (some (leB v1 50)) else (some false)) fun (v8 : Bool) => bif v8 then (Option.bind (sRadioKeyPath v1) fun r9 => Option.bind (sExposes a0 a1 r9) fun r10 => Option.bind (bif r10 then (bif apOk 8 (v2 ++ [v1]).length then (some (v2 ++ [v1])) else none) else (some v2)) fun (v11 : List Int) => some (.next (WR (v1 + 1), v11))) else (some (.done v2))
def sReadableEpochs (a0 : List TLeakedKey) (a1 : Int) (a2 : Int) : Option (List Int) :=
  Option.bind (iter (sReadableEpochs_L1 a0 a1 a2) FU (1, ([] : List Int))) fun (v7 : List Int) => some v7
theorem sReadableEpochs_c {a0 : List TLeakedKey} {a1 : Int} {a2 : Int} {r : List Int} (H : sReadableEpochs a0 a1 a2 = some r) : Fn Try.prog 37 [aL (a0.map eTLeakedKey), aI a1, aI a2] [.c (.own 3 1 (r.map eI) r.length)] := by
  refine fn_in Try.func37 rfl (by kernel_rfl) Try.ntmps37 rfl rfl rfl ?_
  refine wk ?_
  obtain ⟨v7, Hj, H⟩ := ob H
  refine awc_jblk ⟨[(7, .v (.c (.w 0 v7.length)))], [(0, .row 3 1 (v7.map eI) true true)], 1⟩ ?_ ?_
  · refine wk ?_
    refine awc_iter (fun (q : Int × List Int) => ⟨[(0, .v (.c (.d false (.l (a0.map eTLeakedKey))))), (1, tI a1), (2, tI a2), (7, .v (.c (.w 0 q.2.length))), (8, tI q.1)], [(0, .row 3 1 (q.2.map eI) true true)], 1⟩) Hj (weak_of ⟨rfl, rfl, rfl, rfl, rfl, rfl, wn rfl (by first | rfl | simp), rfl, rfl, rfl, trivial⟩ ⟨rfl, ⟨rfl, rfl⟩, trivial⟩) ?_
    rintro ⟨v1, v2⟩ o H
    try dsimp only
    refine wk ?_
    obtain ⟨v8, Hj, H⟩ := ob H
    refine awr_join ⟨[(0, .v (.c (.d false (.l (a0.map eTLeakedKey))))), (1, tI a1), (2, tI a2), (7, .v (.c (.w 0 v2.length))), (8, tI v1), (16, tB v8)], [(0, .row 3 1 (v2.map eI) true true)], 1⟩ ?_ ?_
    · have H := Hj
      refine wk ?_
      refine g2 rfl rfl rfl (fun h => ?_) (fun h => ?_)
      · have H := bt h H
        refine wk ?_
        cases H
        exact weak_of ⟨rfl, rfl, rfl, rfl, rfl, rfl, wn rfl (by first | rfl | simp), rfl, rfl, rfl, rfl, rfl, trivial⟩ ⟨rfl, ⟨rfl, rfl⟩, trivial⟩
      · have H := bf h H
        refine wk ?_
        cases H
        exact weak_of ⟨rfl, rfl, rfl, rfl, rfl, rfl, wn rfl (by first | rfl | simp), rfl, rfl, rfl, rfl, rfl, trivial⟩ ⟨rfl, ⟨rfl, rfl⟩, trivial⟩
    refine wk ?_
    refine awc_cond rfl (fun h => ?_) (fun h => ?_)
    · have H := bt h H
      refine wk ?_
      obtain ⟨r9, hr9, H⟩ := ob H
      refine awr_n rfl (ca rfl rfl rfl (sRadioKeyPath_c hr9) trivial rfl rfl rfl rfl) ?_
      refine wk ?_
      obtain ⟨r10, hr10, H⟩ := ob H
      refine awr_n rfl (ca rfl rfl rfl (sExposes_c hr10) ⟨by first | rfl | exact lm _, trivial⟩ rfl rfl rfl rfl) ?_
      refine wk ?_
      obtain ⟨v11, Hj, H⟩ := ob H
      refine awc_join ⟨[(0, .v (.c (.d false (.l (a0.map eTLeakedKey))))), (1, tI a1), (2, tI a2), (7, .v (.c (.w 0 v11.length))), (8, tI v1)], [(0, .row 3 1 (v11.map eI) true true)], 1⟩ ?_ ?_
      · have H := Hj
        refine wk ?_
        refine awc_cond rfl (fun h => ?_) (fun h => ?_)
        · have H := bt h H
          refine wk ?_
          obtain ⟨h, H⟩ := rq H
          refine awr_step rfl (apT (enc := eI) (ys := v2) (zs := [v1]) h rfl (fun _ => rfl) (by first | rfl | simp) (.w rfl (by first | rfl | exact lm _ | simp)) rfl rfl rfl rfl rfl rfl rfl rfl) ?_
          refine wk ?_
          cases H
          exact weak_of ⟨rfl, rfl, rfl, rfl, rfl, rfl, wn rfl (by first | rfl | simp), rfl, rfl, rfl, trivial⟩ ⟨rfl, ⟨rfl, rfl⟩, trivial⟩
        · have H := bf h H
          refine wk ?_
          cases H
          exact weak_of ⟨rfl, rfl, rfl, rfl, rfl, rfl, wn rfl (by first | rfl | simp), rfl, rfl, rfl, trivial⟩ ⟨rfl, ⟨rfl, rfl⟩, trivial⟩
      refine wk ?_
      cases H
      refine iq_n ?_
      exact weak_of ⟨rfl, rfl, rfl, rfl, rfl, rfl, wn rfl (by first | rfl | simp), rfl, rfl, rfl, trivial⟩ ⟨rfl, ⟨rfl, rfl⟩, trivial⟩
    · have H := bf h H
      refine wk ?_
      cases H
      refine iq_e (fun hq => ?_)
      cases hq
      refine wk ?_
      exact weak_of ⟨wn rfl (by first | rfl | simp), rfl, trivial⟩ ⟨rfl, ⟨rfl, rfl⟩, trivial⟩
  refine wk ?_
  cases H
  exact fin_ret (.cons (.tmp rfl) .nil) rfl rfl (by first | rfl | simp)
def sFindBook_L1 (a0 : List TOperatorBook) (a1 : Int) : Int → Option (Step (Int) (Int))
  | v1 => bif ltB v1 ((a0.length : Nat) : Int) then (Option.bind (ix a0 v1) fun x2 => bif eqB x2.Network a1 then (dn (some v1)) else (some (.next (WR (v1 + 1))))) else (dn (some (-1)))
def sFindBook (a0 : List TOperatorBook) (a1 : Int) : Option Int :=
  iter (sFindBook_L1 a0 a1) FU 0
theorem sFindBook_c {a0 : List TOperatorBook} {a1 : Int} {r : Int} (H : sFindBook a0 a1 = some r) : Fn Try.prog 110 [aL (a0.map eTOperatorBook), aI a1] [.c (.d (.i .i64 r))] := by
  refine fn_in Try.func110 rfl (by kernel_rfl) Try.ntmps110 rfl rfl rfl ?_
  refine wk ?_
  refine awc_iter (fun (q : Int) => ⟨[(0, .v (.c (.d false (.l (a0.map eTOperatorBook))))), (1, tI a1), (5, tI q)], [], 0⟩) H (weak_of ⟨rfl, rfl, rfl, rfl, rfl, rfl, trivial⟩ trivial) ?_
  rintro v1 o H
  try dsimp only
  refine wk ?_
  refine awc_cond rfl (fun h => ?_) (fun h => ?_)
  · have H := bt h H
    refine wk ?_
    obtain ⟨x2, hx2, H⟩ := ob H
    refine awr_n rfl (xdT (enc := eTOperatorBook) hx2 (fun _ => rfl) rfl rfl rfl) ?_
    refine wk ?_
    refine awc_cond rfl (fun h => ?_) (fun h => ?_)
    · have H := bt h H
      refine wk ?_
      obtain ⟨r0, Hd, rfl⟩ := dnE H
      refine iq_r (fun hq => ?_)
      have H := Hd.trans (congrArg some hq)
      refine wk ?_
      cases H
      exact fin_ret (.cons (.tmp rfl) .nil) rfl rfl rfl
    · have H := bf h H
      refine wk ?_
      cases H
      refine iq_n ?_
      exact weak_of ⟨rfl, rfl, rfl, rfl, rfl, rfl, trivial⟩ trivial
  · have H := bf h H
    refine wk ?_
    obtain ⟨r0, Hd, rfl⟩ := dnE H
    refine iq_e (fun hq => ?_)
    have H := Hd.trans (congrArg some hq)
    refine wk ?_
    cases H
    exact fin_ret (.cons (.tmp rfl) .nil) rfl rfl rfl
def sl1In (a0 : Int) (a1 : Int) (a2 : Int) : Option Bool :=
  Option.bind (bif leB a1 a0 then (some (leB a0 a2)) else (some false)) fun (v1 : Bool) => some v1
theorem sl1In_c {a0 : Int} {a1 : Int} {a2 : Int} {r : Bool} (H : sl1In a0 a1 a2 = some r) : Fn Try.prog 90 [aI a0, aI a1, aI a2] [.c (.d (.b r))] := by
  refine fn_in Try.func90 rfl (by kernel_rfl) Try.ntmps90 rfl rfl rfl ?_
  refine wk ?_
  obtain ⟨v1, Hj, H⟩ := ob H
  refine awr_join ⟨[(6, tB v1)], [], 0⟩ ?_ ?_
  · have H := Hj
    refine wk ?_
    refine g2 rfl rfl rfl (fun h => ?_) (fun h => ?_)
    · have H := bt h H
      refine wk ?_
      cases H
      exact weak_of ⟨rfl, rfl, trivial⟩ trivial
    · have H := bf h H
      refine wk ?_
      cases H
      exact weak_of ⟨rfl, rfl, trivial⟩ trivial
  refine wk ?_
  cases H
  exact fin_ret (.cons (.tmp rfl) .nil) rfl rfl rfl
def sIsValidRecord (a0 : TUsageRecord) : Option Bool :=
  Option.bind (sl1In a0.Network 0 3) fun r1 => Option.bind (bif r1 then (bif leB 0 a0.SessionID then (Option.bind (sl1In a0.Seq 1 100000) fun r3 => bif r3 then (Option.bind (sl1In a0.Bytes 0 100000) fun r4 => some r4) else (some false)) else (some false)) else (some false)) fun (v2 : Bool) => some v2
theorem sIsValidRecord_c {a0 : TUsageRecord} {r : Bool} (H : sIsValidRecord a0 = some r) : Fn Try.prog 167 [.agg (eTUsageRecord a0)] [.c (.d (.b r))] := by
  refine fn_in Try.func167 rfl (by kernel_rfl) Try.ntmps167 rfl rfl rfl ?_
  refine wk ?_
  obtain ⟨r1, hr1, H⟩ := ob H
  refine awr_n rfl (ca rfl rfl rfl (sl1In_c hr1) trivial rfl rfl rfl rfl) ?_
  refine wk ?_
  obtain ⟨v2, Hj, H⟩ := ob H
  refine awr_join ⟨[(2, tB v2)], [], 0⟩ ?_ ?_
  · have H := Hj
    refine wk ?_
    refine g2 rfl rfl rfl (fun h => ?_) (fun h => ?_)
    · have H := bt h H
      refine wk ?_
      refine g2 rfl rfl rfl (fun h => ?_) (fun h => ?_)
      · have H := bt h H
        refine wk ?_
        obtain ⟨r3, hr3, H⟩ := ob H
        refine awr_ng rfl rfl rfl rfl (ca rfl rfl rfl (sl1In_c hr3) trivial rfl rfl rfl rfl) ?_
        refine wk ?_
        refine g2 rfl rfl rfl (fun h => ?_) (fun h => ?_)
        · have H := bt h H
          refine wk ?_
          obtain ⟨r4, hr4, H⟩ := ob H
          refine awr_ng rfl rfl rfl rfl (ca rfl rfl rfl (sl1In_c hr4) trivial rfl rfl rfl rfl) ?_
          refine wk ?_
          cases H
          exact weak_of ⟨rfl, rfl, trivial⟩ trivial
        · have H := bf h H
          refine wk ?_
          cases H
          exact weak_of ⟨rfl, rfl, trivial⟩ trivial
      · have H := bf h H
        refine wk ?_
        cases H
        exact weak_of ⟨rfl, rfl, trivial⟩ trivial
    · have H := bf h H
      refine wk ?_
      cases H
      exact weak_of ⟨rfl, rfl, trivial⟩ trivial
  refine wk ?_
  cases H
  exact fin_ret (.cons (.tmp rfl) .nil) rfl rfl rfl
def sFindRecord_L1 (a0 : List TUsageRecord) (a1 : TUsageRecord) : Int → Option (Step (Int) (Int))
  | v1 => bif ltB v1 ((a0.length : Nat) : Int) then (Option.bind (ix a0 v1) fun x2 => Option.bind (bif eqB x2.Network a1.Network then (Option.bind (ix a0 v1) fun x4 => bif eqB x4.SessionID a1.SessionID then (Option.bind (ix a0 v1) fun x5 => some (eqB x5.Seq a1.Seq)) else (some false)) else (some false)) fun (v3 : Bool) => bif v3 then (dn (some v1)) else (some (.next (WR (v1 + 1))))) else (dn (some (-1)))
def sFindRecord (a0 : List TUsageRecord) (a1 : TUsageRecord) : Option Int :=
  iter (sFindRecord_L1 a0 a1) FU 0
theorem sFindRecord_c {a0 : List TUsageRecord} {a1 : TUsageRecord} {r : Int} (H : sFindRecord a0 a1 = some r) : Fn Try.prog 168 [aL (a0.map eTUsageRecord), .agg (eTUsageRecord a1)] [.c (.d (.i .i64 r))] := by
  refine fn_in Try.func168 rfl (by kernel_rfl) Try.ntmps168 rfl rfl rfl ?_
  refine wkd ?_
  refine awc_iter (fun (q : Int) => ⟨[(0, .v (.c (.d false (.l (a0.map eTUsageRecord))))), (3, .v (.c (.p 0 0))), (5, tI q)], [(0, .var 183 [.d false (.i .i64 a1.Network), .d false (.i .i64 a1.SessionID), .d false (.i .i64 a1.Seq), .d false (.i .i64 a1.Bytes)])], 1⟩) H (weak_of ⟨rfl, rfl, rfl, rfl, rfl, rfl, trivial⟩ ⟨rfl, ⟨rfl, rfl⟩, trivial⟩) ?_
  rintro v1 o H
  try dsimp only
  refine wkd ?_
  refine awc_cond rfl (fun h => ?_) (fun h => ?_)
  · have H := bt h H
    refine wkd ?_
    obtain ⟨x2, hx2, H⟩ := ob H
    refine dr_n rfl (xdT (enc := eTUsageRecord) hx2 (fun _ => rfl) rfl rfl rfl) ?_
    refine wkd ?_
    obtain ⟨v3, Hj, H⟩ := ob H
    refine dr_join ⟨[(0, .v (.c (.d false (.l (a0.map eTUsageRecord))))), (3, .v (.c (.p 0 0))), (5, tI v1), (39, tB v3)], [(0, .var 183 [.d false (.i .i64 a1.Network), .d false (.i .i64 a1.SessionID), .d false (.i .i64 a1.Seq), .d false (.i .i64 a1.Bytes)])], 1⟩ ?_ ?_
    · have H := Hj
      refine wkd ?_
      refine dg2 rfl rfl rfl (fun h => ?_) (fun h => ?_)
      · have H := bt h H
        refine wkd ?_
        obtain ⟨x4, hx4, H⟩ := ob H
        refine dr_ng rfl rfl rfl rfl (xdT (enc := eTUsageRecord) hx4 (fun _ => rfl) rfl rfl rfl) ?_
        refine wkd ?_
        refine dg2 rfl rfl rfl (fun h => ?_) (fun h => ?_)
        · have H := bt h H
          refine wkd ?_
          obtain ⟨x5, hx5, H⟩ := ob H
          refine dr_ng rfl rfl rfl rfl (xdT (enc := eTUsageRecord) hx5 (fun _ => rfl) rfl rfl rfl) ?_
          refine wkd ?_
          cases H
          exact weak_of ⟨rfl, rfl, rfl, rfl, rfl, rfl, rfl, rfl, trivial⟩ ⟨rfl, ⟨rfl, rfl⟩, trivial⟩
        · have H := bf h H
          refine wkd ?_
          cases H
          exact weak_of ⟨rfl, rfl, rfl, rfl, rfl, rfl, rfl, rfl, trivial⟩ ⟨rfl, ⟨rfl, rfl⟩, trivial⟩
      · have H := bf h H
        refine wkd ?_
        cases H
        exact weak_of ⟨rfl, rfl, rfl, rfl, rfl, rfl, rfl, rfl, trivial⟩ ⟨rfl, ⟨rfl, rfl⟩, trivial⟩
    refine wkd ?_
    refine awc_cond rfl (fun h => ?_) (fun h => ?_)
    · have H := bt h H
      refine wkd ?_
      obtain ⟨r0, Hd, rfl⟩ := dnE H
      refine iq_r (fun hq => ?_)
      have H := Hd.trans (congrArg some hq)
      refine wkd ?_
      cases H
      exact fin_ret (.cons (.tmp rfl) .nil) rfl rfl rfl
    · have H := bf h H
      refine wkd ?_
      cases H
      refine iq_n ?_
      exact weak_of ⟨rfl, rfl, rfl, rfl, rfl, rfl, trivial⟩ ⟨rfl, ⟨rfl, rfl⟩, trivial⟩
  · have H := bf h H
    refine wkd ?_
    obtain ⟨r0, Hd, rfl⟩ := dnE H
    refine iq_e (fun hq => ?_)
    have H := Hd.trans (congrArg some hq)
    refine wkd ?_
    cases H
    exact fin_ret (.cons (.tmp rfl) .nil) rfl rfl rfl
def sAreValidRecords_L1 (a0 : List TUsageRecord) : Int → Option (Step (Int) (Bool))
  | v1 => bif ltB v1 ((a0.length : Nat) : Int) then (Option.bind (ix a0 v1) fun x2 => Option.bind (sIsValidRecord x2) fun r3 => Option.bind (bif !r3 then (some true) else (bif slOk a0 0 v1 then (Option.bind (ix a0 v1) fun x5 => Option.bind (sFindRecord (a0.take (v1).toNat) x5) fun r6 => some (leB 0 r6)) else none)) fun (v4 : Bool) => bif v4 then (dn (some false)) else (some (.next (WR (v1 + 1))))) else (dn (some (leB ((a0.length : Nat) : Int) 24)))
def sAreValidRecords (a0 : List TUsageRecord) : Option Bool :=
  iter (sAreValidRecords_L1 a0) FU 0
theorem sAreValidRecords_c {a0 : List TUsageRecord} {r : Bool} (H : sAreValidRecords a0 = some r) : Fn Try.prog 151 [aL (a0.map eTUsageRecord)] [.c (.d (.b r))] := by
  refine fn_in Try.func151 rfl (by kernel_rfl) Try.ntmps151 rfl rfl rfl ?_
  refine wkd ?_
  refine awc_iter (fun (q : Int) => ⟨[(0, .v (.c (.d false (.l (a0.map eTUsageRecord))))), (3, tI q)], [], 0⟩) H (weak_of ⟨rfl, rfl, rfl, rfl, trivial⟩ trivial) ?_
  rintro v1 o H
  try dsimp only
  refine wkd ?_
  refine awc_cond rfl (fun h => ?_) (fun h => ?_)
  · have H := bt h H
    refine wkd ?_
    obtain ⟨x2, hx2, H⟩ := ob H
    refine dr_n rfl (xdT (enc := eTUsageRecord) hx2 (fun _ => rfl) rfl rfl rfl) ?_
    refine wkd ?_
    obtain ⟨r3, hr3, H⟩ := ob H
    refine dr_n rfl (ca rfl rfl rfl (sIsValidRecord_c hr3) trivial rfl rfl rfl rfl) ?_
    refine wkd ?_
    obtain ⟨v4, Hj, H⟩ := ob H
    refine dr_join ⟨[(0, .v (.c (.d false (.l (a0.map eTUsageRecord))))), (3, tI v1), (26, tB v4)], [], 0⟩ ?_ ?_
    · have H := Hj
      refine wkd ?_
      refine dg2 rfl rfl rfl (fun h => ?_) (fun h => ?_)
      · have H := bt h H
        refine wkd ?_
        cases H
        exact weak_of ⟨rfl, rfl, rfl, rfl, rfl, rfl, trivial⟩ trivial
      · have H := bf h H
        refine wkd ?_
        obtain ⟨h, H⟩ := rq H
        refine dr_ng rfl rfl rfl rfl (cdhT (enc := eTUsageRecord) h (fun _ => rfl) rfl rfl rfl) ?_
        refine wkd ?_
        obtain ⟨x5, hx5, H⟩ := ob H
        refine dr_ng rfl rfl rfl rfl (xdT (enc := eTUsageRecord) hx5 (fun _ => rfl) rfl rfl rfl) ?_
        refine wkd ?_
        obtain ⟨r6, hr6, H⟩ := ob H
        refine dr_ng rfl rfl rfl rfl (ca rfl rfl rfl (sFindRecord_c hr6) trivial rfl rfl rfl rfl) ?_
        refine wkd ?_
        cases H
        exact weak_of ⟨rfl, rfl, rfl, rfl, rfl, rfl, trivial⟩ trivial
    refine wkd ?_
    refine awc_cond rfl (fun h => ?_) (fun h => ?_)
    · have H := bt h H
      refine wkd ?_
      obtain ⟨r0, Hd, rfl⟩ := dnE H
      refine iq_r (fun hq => ?_)
      have H := Hd.trans (congrArg some hq)
      refine wkd ?_
      cases H
      exact fin_ret (.cons (.tmp rfl) .nil) rfl rfl rfl
    · have H := bf h H
      refine wkd ?_
      cases H
      refine iq_n ?_
      exact weak_of ⟨rfl, rfl, rfl, rfl, trivial⟩ trivial
  · have H := bf h H
    refine wkd ?_
    obtain ⟨r0, Hd, rfl⟩ := dnE H
    refine iq_e (fun hq => ?_)
    have H := Hd.trans (congrArg some hq)
    refine wkd ?_
    cases H
    exact fin_ret (.cons (.tmp rfl) .nil) rfl rfl rfl
def sIsValidBook_L1 (a0 : TOperatorBook) : Int → Option (Step (Int) (Bool))
  | v1 => bif ltB v1 ((a0.Claims.length : Nat) : Int) then (Option.bind (ix a0.Claims v1) fun x2 => bif !eqB x2.Network a0.Network then (dn (some false)) else (some (.next (WR (v1 + 1))))) else (dn (Option.bind (sl1In a0.Network 0 3) fun r3 => Option.bind (bif r3 then (Option.bind (sAreValidRecords a0.Own) fun r5 => bif r5 then (Option.bind (sAreValidRecords a0.Claims) fun r6 => some r6) else (some false)) else (some false)) fun (v4 : Bool) => some v4))
def sIsValidBook (a0 : TOperatorBook) : Option Bool :=
  iter (sIsValidBook_L1 a0) FU 0
theorem sIsValidBook_c {a0 : TOperatorBook} {r : Bool} (H : sIsValidBook a0 = some r) : Fn Try.prog 111 [.agg (eTOperatorBook a0)] [.c (.d (.b r))] := by
  refine fn_in Try.func111 rfl (by kernel_rfl) Try.ntmps111 rfl rfl rfl ?_
  refine wkd ?_
  refine awc_iter (fun (q : Int) => ⟨[(1, .v (.c (.p 0 0))), (3, tI q)], [(0, .var 150 [.d false (.i .i64 a0.Network), .d false (.l (a0.Own.map eTUsageRecord)), .d false (.l (a0.Claims.map eTUsageRecord))])], 1⟩) H (weak_of ⟨rfl, rfl, rfl, rfl, trivial⟩ ⟨rfl, ⟨rfl, rfl⟩, trivial⟩) ?_
  rintro v1 o H
  try dsimp only
  refine wkd ?_
  refine awc_cond rfl (fun h => ?_) (fun h => ?_)
  · have H := bt h H
    refine wkd ?_
    obtain ⟨x2, hx2, H⟩ := ob H
    refine dr_n rfl (xdT (enc := eTUsageRecord) hx2 (fun _ => rfl) rfl rfl rfl) ?_
    refine wkd ?_
    refine awc_cond rfl (fun h => ?_) (fun h => ?_)
    · have H := bt h H
      refine wkd ?_
      obtain ⟨r0, Hd, rfl⟩ := dnE H
      refine iq_r (fun hq => ?_)
      have H := Hd.trans (congrArg some hq)
      refine wkd ?_
      cases H
      exact fin_ret (.cons (.tmp rfl) .nil) rfl rfl rfl
    · have H := bf h H
      refine wkd ?_
      cases H
      refine iq_n ?_
      exact weak_of ⟨rfl, rfl, rfl, rfl, trivial⟩ ⟨rfl, ⟨rfl, rfl⟩, trivial⟩
  · have H := bf h H
    refine wkd ?_
    obtain ⟨r0, Hd, rfl⟩ := dnE H
    refine iq_e (fun hq => ?_)
    have H := Hd.trans (congrArg some hq)
    refine wkd ?_
    obtain ⟨r3, hr3, H⟩ := ob H
    refine awr_n rfl (ca rfl rfl rfl (sl1In_c hr3) trivial rfl rfl rfl rfl) ?_
    refine wkd ?_
    obtain ⟨v4, Hj, H⟩ := ob H
    refine awr_join ⟨[(2, tB v4)], [], 0⟩ ?_ ?_
    · have H := Hj
      refine wkd ?_
      refine g2 rfl rfl rfl (fun h => ?_) (fun h => ?_)
      · have H := bt h H
        refine wkd ?_
        obtain ⟨r5, hr5, H⟩ := ob H
        refine awr_ng rfl rfl rfl rfl (ca rfl rfl rfl (sAreValidRecords_c hr5) trivial rfl rfl rfl rfl) ?_
        refine wkd ?_
        refine g2 rfl rfl rfl (fun h => ?_) (fun h => ?_)
        · have H := bt h H
          refine wkd ?_
          obtain ⟨r6, hr6, H⟩ := ob H
          refine awr_ng rfl rfl rfl rfl (ca rfl rfl rfl (sAreValidRecords_c hr6) trivial rfl rfl rfl rfl) ?_
          refine wkd ?_
          cases H
          exact weak_of ⟨rfl, rfl, trivial⟩ trivial
        · have H := bf h H
          refine wkd ?_
          cases H
          exact weak_of ⟨rfl, rfl, trivial⟩ trivial
      · have H := bf h H
        refine wkd ?_
        cases H
        exact weak_of ⟨rfl, rfl, trivial⟩ trivial
    refine wkd ?_
    cases H
    exact fin_ret (.cons (.tmp rfl) .nil) rfl rfl rfl
def sIsValidAgreement (a0 : TRoamingAgreement) : Option Bool :=
  Option.bind (sl1In a0.Home 0 3) fun r1 => Option.bind (bif r1 then (Option.bind (sl1In a0.Visited 0 3) fun r3 => bif r3 then (bif !eqB a0.Home a0.Visited then (Option.bind (sl1In a0.Price 0 1000) fun r4 => bif r4 then (Option.bind (sl1In a0.Cap 0 1000000000000) fun r5 => some r5) else (some false)) else (some false)) else (some false)) else (some false)) fun (v2 : Bool) => some v2
theorem sIsValidAgreement_c {a0 : TRoamingAgreement} {r : Bool} (H : sIsValidAgreement a0 = some r) : Fn Try.prog 35 [.agg (eTRoamingAgreement a0)] [.c (.d (.b r))] := by
  refine fn_in Try.func35 rfl (by kernel_rfl) Try.ntmps35 rfl rfl rfl ?_
  refine wk ?_
  obtain ⟨r1, hr1, H⟩ := ob H
  refine awr_n rfl (ca rfl rfl rfl (sl1In_c hr1) trivial rfl rfl rfl rfl) ?_
  refine wk ?_
  obtain ⟨v2, Hj, H⟩ := ob H
  refine awr_join ⟨[(2, tB v2)], [], 0⟩ ?_ ?_
  · have H := Hj
    refine wk ?_
    refine g2 rfl rfl rfl (fun h => ?_) (fun h => ?_)
    · have H := bt h H
      refine wk ?_
      obtain ⟨r3, hr3, H⟩ := ob H
      refine awr_ng rfl rfl rfl rfl (ca rfl rfl rfl (sl1In_c hr3) trivial rfl rfl rfl rfl) ?_
      refine wk ?_
      refine g2 rfl rfl rfl (fun h => ?_) (fun h => ?_)
      · have H := bt h H
        refine wk ?_
        refine g2 rfl rfl rfl (fun h => ?_) (fun h => ?_)
        · have H := bt h H
          refine wk ?_
          obtain ⟨r4, hr4, H⟩ := ob H
          refine awr_ng rfl rfl rfl rfl (ca rfl rfl rfl (sl1In_c hr4) trivial rfl rfl rfl rfl) ?_
          refine wk ?_
          refine g2 rfl rfl rfl (fun h => ?_) (fun h => ?_)
          · have H := bt h H
            refine wk ?_
            obtain ⟨r5, hr5, H⟩ := ob H
            refine awr_ng rfl rfl rfl rfl (ca rfl rfl rfl (sl1In_c hr5) trivial rfl rfl rfl rfl) ?_
            refine wk ?_
            cases H
            exact weak_of ⟨rfl, rfl, trivial⟩ trivial
          · have H := bf h H
            refine wk ?_
            cases H
            exact weak_of ⟨rfl, rfl, trivial⟩ trivial
        · have H := bf h H
          refine wk ?_
          cases H
          exact weak_of ⟨rfl, rfl, trivial⟩ trivial
      · have H := bf h H
        refine wk ?_
        cases H
        exact weak_of ⟨rfl, rfl, trivial⟩ trivial
    · have H := bf h H
      refine wk ?_
      cases H
      exact weak_of ⟨rfl, rfl, trivial⟩ trivial
  refine wk ?_
  cases H
  exact fin_ret (.cons (.tmp rfl) .nil) rfl rfl rfl
def sMin (a0 : Int) (a1 : Int) : Option Int :=
  bif ltB a1 a0 then (some a1) else (some a0)
theorem sMin_c {a0 : Int} {a1 : Int} {r : Int} (H : sMin a0 a1 = some r) : Fn Try.prog 152 [aI a0, aI a1] [.c (.d (.i .i64 r))] := by
  refine fn_in Try.func152 rfl (by kernel_rfl) Try.ntmps152 rfl rfl rfl ?_
  refine wk ?_
  refine awc_cond rfl (fun h => ?_) (fun h => ?_)
  · have H := bt h H
    refine wk ?_
    cases H
    exact fin_ret (.cons (.tmp rfl) .nil) rfl rfl rfl
  · have H := bf h H
    refine wk ?_
    cases H
    exact fin_ret (.cons (.tmp rfl) .nil) rfl rfl rfl
def sAgreedBytes_L1 (a0 : List TUsageRecord) (a1 : List TUsageRecord) (a2 : Int) : (Int × Int) → Option (Step (Int × Int) (Int))
  | (v1, v2) => bif ltB v2 ((a1.length : Nat) : Int) then (Option.bind (ix a1 v2) fun x14 => Option.bind (sFindRecord a0 x14) fun r15 => Option.bind (ix a1 v2) fun x16 => Option.bind (bif eqB x16.Network a2 then (Option.bind (ix a1 v2) fun x18 => Option.bind (sFindRecord a1 x18) fun r19 => bif eqB r19 v2 then (some (leB 0 r15)) else (some false)) else (some false)) fun (v17 : Bool) => Option.bind (bif v17 then (Option.bind (ix a0 r15) fun x21 => Option.bind (ix a1 v2) fun x22 => Option.bind (sMin x21.Bytes x22.Bytes) fun r23 => some (WR (v1 + r23))) else (some v1)) fun (v20 : Int) => some (.next (v20, WR (v2 + 1)))) else (some (.done v1))
def sAgreedBytes (a0 : List TUsageRecord) (a1 : List TUsageRecord) (a2 : Int) : Option Int :=
  Option.bind (iter (sAgreedBytes_L1 a0 a1 a2) FU (0, 0)) fun (v13 : Int) => some v13
theorem sAgreedBytes_c {a0 : List TUsageRecord} {a1 : List TUsageRecord} {a2 : Int} {r : Int} (H : sAgreedBytes a0 a1 a2 = some r) : Fn Try.prog 153 [aL (a0.map eTUsageRecord), aL (a1.map eTUsageRecord), aI a2] [.c (.d (.i .i64 r))] := by
  refine fn_in Try.func153 rfl (by kernel_rfl) Try.ntmps153 rfl rfl rfl ?_
  refine wkd ?_
  obtain ⟨v13, Hj, H⟩ := ob H
  refine awc_jblk ⟨[(7, tI v13)], [], 0⟩ ?_ ?_
  · refine wkd ?_
    refine awc_iter (fun (q : Int × Int) => ⟨[(0, .v (.c (.d false (.l (a0.map eTUsageRecord))))), (1, .v (.c (.d false (.l (a1.map eTUsageRecord))))), (2, tI a2), (7, tI q.1), (8, tI q.2)], [], 0⟩) Hj (weak_of ⟨rfl, rfl, rfl, rfl, rfl, rfl, rfl, rfl, rfl, rfl, trivial⟩ trivial) ?_
    rintro ⟨v1, v2⟩ o H
    try dsimp only
    refine wkd ?_
    refine awc_cond rfl (fun h => ?_) (fun h => ?_)
    · have H := bt h H
      refine wkd ?_
      obtain ⟨x14, hx14, H⟩ := ob H
      refine awr_n rfl (xdT (enc := eTUsageRecord) hx14 (fun _ => rfl) rfl rfl rfl) ?_
      refine wkd ?_
      obtain ⟨r15, hr15, H⟩ := ob H
      refine awr_n rfl (ca rfl rfl rfl (sFindRecord_c hr15) trivial rfl rfl rfl rfl) ?_
      refine wkd ?_
      obtain ⟨x16, hx16, H⟩ := ob H
      refine awr_n rfl (xdT (enc := eTUsageRecord) hx16 (fun _ => rfl) rfl rfl rfl) ?_
      refine wkd ?_
      obtain ⟨v17, Hj, H⟩ := ob H
      refine awr_join ⟨[(0, .v (.c (.d false (.l (a0.map eTUsageRecord))))), (1, .v (.c (.d false (.l (a1.map eTUsageRecord))))), (2, tI a2), (7, tI v1), (8, tI v2), (9, tI r15), (42, tB v17)], [], 0⟩ ?_ ?_
      · have H := Hj
        refine wkd ?_
        refine g2 rfl rfl rfl (fun h => ?_) (fun h => ?_)
        · have H := bt h H
          refine wkd ?_
          obtain ⟨x18, hx18, H⟩ := ob H
          refine awr_ng rfl rfl rfl rfl (xdT (enc := eTUsageRecord) hx18 (fun _ => rfl) rfl rfl rfl) ?_
          refine wkd ?_
          obtain ⟨r19, hr19, H⟩ := ob H
          refine awr_ng rfl rfl rfl rfl (ca rfl rfl rfl (sFindRecord_c hr19) trivial rfl rfl rfl rfl) ?_
          refine wkd ?_
          refine g2 rfl rfl rfl (fun h => ?_) (fun h => ?_)
          · have H := bt h H
            refine wkd ?_
            cases H
            exact weak_of ⟨rfl, rfl, rfl, rfl, rfl, rfl, rfl, rfl, rfl, rfl, rfl, rfl, rfl, rfl, trivial⟩ trivial
          · have H := bf h H
            refine wkd ?_
            cases H
            exact weak_of ⟨rfl, rfl, rfl, rfl, rfl, rfl, rfl, rfl, rfl, rfl, rfl, rfl, rfl, rfl, trivial⟩ trivial
        · have H := bf h H
          refine wkd ?_
          cases H
          exact weak_of ⟨rfl, rfl, rfl, rfl, rfl, rfl, rfl, rfl, rfl, rfl, rfl, rfl, rfl, rfl, trivial⟩ trivial
      refine wkd ?_
      obtain ⟨v20, Hj, H⟩ := ob H
      refine awc_join ⟨[(0, .v (.c (.d false (.l (a0.map eTUsageRecord))))), (1, .v (.c (.d false (.l (a1.map eTUsageRecord))))), (2, tI a2), (7, tI v20), (8, tI v2)], [], 0⟩ ?_ ?_
      · have H := Hj
        refine wkd ?_
        refine awc_cond rfl (fun h => ?_) (fun h => ?_)
        · have H := bt h H
          refine wkd ?_
          obtain ⟨x21, hx21, H⟩ := ob H
          refine dr_n rfl (xdT (enc := eTUsageRecord) hx21 (fun _ => rfl) rfl rfl rfl) ?_
          refine wkd ?_
          obtain ⟨x22, hx22, H⟩ := ob H
          refine dr_n rfl (xdT (enc := eTUsageRecord) hx22 (fun _ => rfl) rfl rfl rfl) ?_
          refine wkd ?_
          obtain ⟨r23, hr23, H⟩ := ob H
          refine dr_n rfl (ca rfl rfl rfl (sMin_c hr23) trivial rfl rfl rfl rfl) ?_
          refine wkd ?_
          cases H
          exact weak_of ⟨rfl, rfl, rfl, rfl, rfl, rfl, rfl, rfl, rfl, rfl, trivial⟩ trivial
        · have H := bf h H
          refine wkd ?_
          cases H
          exact weak_of ⟨rfl, rfl, rfl, rfl, rfl, rfl, rfl, rfl, rfl, rfl, trivial⟩ trivial
      refine wkd ?_
      cases H
      refine iq_n ?_
      exact weak_of ⟨rfl, rfl, rfl, rfl, rfl, rfl, rfl, rfl, rfl, rfl, trivial⟩ trivial
    · have H := bf h H
      refine wkd ?_
      cases H
      refine iq_e (fun hq => ?_)
      cases hq
      refine wkd ?_
      exact weak_of ⟨rfl, rfl, trivial⟩ trivial
  refine wkd ?_
  cases H
  exact fin_ret (.cons (.tmp rfl) .nil) rfl rfl rfl
def sAmountOwed (a0 : TRoamingAgreement) (a1 : List TUsageRecord) (a2 : List TUsageRecord) : Option Int :=
  Option.bind (sIsValidAgreement a0) fun r1 => Option.bind (bif !r1 then (some true) else (Option.bind (sAreValidRecords a1) fun r3 => bif !r3 then (some true) else (Option.bind (sAreValidRecords a2) fun r4 => some (!r4)))) fun (v2 : Bool) => bif v2 then (some 0) else (Option.bind (sAgreedBytes a1 a2 a0.Visited) fun r5 => Option.bind (sMin a0.Cap (WR (a0.Price * r5))) fun r6 => some r6)
theorem sAmountOwed_c {a0 : TRoamingAgreement} {a1 : List TUsageRecord} {a2 : List TUsageRecord} {r : Int} (H : sAmountOwed a0 a1 a2 = some r) : Fn Try.prog 112 [.agg (eTRoamingAgreement a0), aL (a1.map eTUsageRecord), aL (a2.map eTUsageRecord)] [.c (.d (.i .i64 r))] := by
  refine fn_in Try.func112 rfl (by kernel_rfl) Try.ntmps112 rfl rfl rfl ?_
  refine wkd ?_
  obtain ⟨r1, hr1, H⟩ := ob H
  refine awr_n rfl (ca rfl rfl rfl (sIsValidAgreement_c hr1) trivial rfl rfl rfl rfl) ?_
  refine wkd ?_
  obtain ⟨v2, Hj, H⟩ := ob H
  refine awr_join ⟨[(1, .v (.c (.d false (.l (a1.map eTUsageRecord))))), (2, .v (.c (.d false (.l (a2.map eTUsageRecord))))), (3, .v (.c (.p 0 0))), (19, tB v2)], [(0, .var 62 [.d false (.i .i64 a0.Home), .d false (.i .i64 a0.Visited), .d false (.i .i64 a0.Price), .d false (.i .i64 a0.Cap)])], 1⟩ ?_ ?_
  · have H := Hj
    refine wkd ?_
    refine g2 rfl rfl rfl (fun h => ?_) (fun h => ?_)
    · have H := bt h H
      refine wkd ?_
      cases H
      exact weak_of ⟨rfl, rfl, rfl, rfl, rfl, rfl, rfl, rfl, trivial⟩ ⟨rfl, ⟨rfl, rfl⟩, trivial⟩
    · have H := bf h H
      refine wkd ?_
      obtain ⟨r3, hr3, H⟩ := ob H
      refine awr_ng rfl rfl rfl rfl (ca rfl rfl rfl (sAreValidRecords_c hr3) trivial rfl rfl rfl rfl) ?_
      refine wkd ?_
      refine g2 rfl rfl rfl (fun h => ?_) (fun h => ?_)
      · have H := bt h H
        refine wkd ?_
        cases H
        exact weak_of ⟨rfl, rfl, rfl, rfl, rfl, rfl, rfl, rfl, trivial⟩ ⟨rfl, ⟨rfl, rfl⟩, trivial⟩
      · have H := bf h H
        refine wkd ?_
        obtain ⟨r4, hr4, H⟩ := ob H
        refine awr_ng rfl rfl rfl rfl (ca rfl rfl rfl (sAreValidRecords_c hr4) trivial rfl rfl rfl rfl) ?_
        refine wkd ?_
        cases H
        exact weak_of ⟨rfl, rfl, rfl, rfl, rfl, rfl, rfl, rfl, trivial⟩ ⟨rfl, ⟨rfl, rfl⟩, trivial⟩
  refine wkd ?_
  refine awc_cond rfl (fun h => ?_) (fun h => ?_)
  · have H := bt h H
    refine wkd ?_
    cases H
    exact fin_ret (.cons (.tmp rfl) .nil) rfl rfl rfl
  · have H := bf h H
    refine wkd ?_
    obtain ⟨r5, hr5, H⟩ := ob H
    refine dr_n rfl (ca rfl rfl rfl (sAgreedBytes_c hr5) trivial rfl rfl rfl rfl) ?_
    refine wkd ?_
    obtain ⟨r6, hr6, H⟩ := ob H
    refine dr_n rfl (ca rfl rfl rfl (sMin_c hr6) trivial rfl rfl rfl rfl) ?_
    refine wkd ?_
    cases H
    exact fin_ret (.cons (.tmp rfl) .nil) rfl rfl rfl
def sSettlement_L1 (a0 : List TOperatorBook) (a1 : List TRoamingAgreement) : (Int × List TStatementLine) → Option (Step (Int × List TStatementLine) (List TStatementLine))
  | (v1, v2) => Option.bind (bif ltB v1 ((a1.length : Nat) : Int) then (some (ltB ((v2.length : Nat) : Int) 12)) else (some false)) fun (v17 : Bool) => bif v17 then (Option.bind (ix a1 v1) fun x18 => Option.bind (sFindBook a0 x18.Home) fun r19 => Option.bind (sFindBook a0 x18.Visited) fun r20 => Option.bind (bif ltB r19 0 then (some true) else (bif ltB r20 0 then (some true) else (Option.bind (ix a0 r19) fun x22 => Option.bind (sIsValidBook x22) fun r23 => bif !r23 then (some true) else (Option.bind (ix a0 r20) fun x24 => Option.bind (sIsValidBook x24) fun r25 => some (!r25))))) fun (v21 : Bool) => bif v21 then (some (.next (WR (v1 + 1), v2))) else (Option.bind (ix a0 r19) fun x26 => Option.bind (ix a0 r20) fun x27 => Option.bind (sAmountOwed x18 x26.Own x27.Claims) fun r28 => Option.bind (bif ltB 0 r28 then (bif apOk 24 (v2 ++ [(⟨x18.Home, x18.Visited, r28⟩ : TStatementLine)]).length then (some (v2 ++ [(⟨x18.Home, x18.Visited, r28⟩ : TStatementLine)])) else none) else (some v2)) fun (v29 : List TStatementLine) => some (.next (WR (v1 + 1), v29)))) else (some (.done v2))
def sSettlement (a0 : List TOperatorBook) (a1 : List TRoamingAgreement) : Option (List TStatementLine) :=
  Option.bind (iter (sSettlement_L1 a0 a1) FU (0, ([] : List TStatementLine))) fun (v16 : List TStatementLine) => some v16
theorem sSettlement_c {a0 : List TOperatorBook} {a1 : List TRoamingAgreement} {r : List TStatementLine} (H : sSettlement a0 a1 = some r) : Fn Try.prog 55 [aL (a0.map eTOperatorBook), aL (a1.map eTRoamingAgreement)] [.c (.own 30 3 (r.map eTStatementLine) r.length)] := by
  refine fn_in Try.func55 rfl (by kernel_rfl) Try.ntmps55 rfl rfl rfl ?_
  refine wkd ?_
  obtain ⟨v16, Hj, H⟩ := ob H
  refine awc_jblk ⟨[(5, .v (.c (.w 0 v16.length)))], [(0, .row 30 3 (v16.map eTStatementLine) true true)], 1⟩ ?_ ?_
  · refine wkd ?_
    refine awc_iter (fun (q : Int × List TStatementLine) => ⟨[(0, .v (.c (.d false (.l (a0.map eTOperatorBook))))), (1, .v (.c (.d false (.l (a1.map eTRoamingAgreement))))), (5, .v (.c (.w 0 q.2.length))), (6, tI q.1)], [(0, .row 30 3 (q.2.map eTStatementLine) true true)], 1⟩) Hj (weak_of ⟨rfl, rfl, rfl, rfl, wn rfl (by first | rfl | simp), rfl, rfl, rfl, trivial⟩ ⟨rfl, ⟨rfl, rfl⟩, trivial⟩) ?_
    rintro ⟨v1, v2⟩ o H
    try dsimp only
    refine wkd ?_
    obtain ⟨v17, Hj, H⟩ := ob H
    refine awr_join ⟨[(0, .v (.c (.d false (.l (a0.map eTOperatorBook))))), (1, .v (.c (.d false (.l (a1.map eTRoamingAgreement))))), (5, .v (.c (.w 0 v2.length))), (6, tI v1), (20, tB v17)], [(0, .row 30 3 (v2.map eTStatementLine) true true)], 1⟩ ?_ ?_
    · have H := Hj
      refine wkd ?_
      refine g2 rfl rfl rfl (fun h => ?_) (fun h => ?_)
      · have H := bt h H
        refine wkd ?_
        cases H
        exact weak_of ⟨rfl, rfl, rfl, rfl, wn rfl (by first | rfl | simp), rfl, rfl, rfl, rfl, rfl, trivial⟩ ⟨rfl, ⟨rfl, rfl⟩, trivial⟩
      · have H := bf h H
        refine wkd ?_
        cases H
        exact weak_of ⟨rfl, rfl, rfl, rfl, wn rfl (by first | rfl | simp), rfl, rfl, rfl, rfl, rfl, trivial⟩ ⟨rfl, ⟨rfl, rfl⟩, trivial⟩
    refine wkd ?_
    refine awc_cond rfl (fun h => ?_) (fun h => ?_)
    · have H := bt h H
      refine wkd ?_
      obtain ⟨x18, hx18, H⟩ := ob H
      refine awr_n rfl (xdT (enc := eTRoamingAgreement) hx18 (fun _ => rfl) rfl rfl rfl) ?_
      refine wkd ?_
      obtain ⟨r19, hr19, H⟩ := ob H
      refine awr_n rfl (ca rfl rfl rfl (sFindBook_c hr19) trivial rfl rfl rfl rfl) ?_
      refine wkd ?_
      obtain ⟨r20, hr20, H⟩ := ob H
      refine awr_n rfl (ca rfl rfl rfl (sFindBook_c hr20) trivial rfl rfl rfl rfl) ?_
      refine wkd ?_
      obtain ⟨v21, Hj, H⟩ := ob H
      refine awr_join ⟨[(0, .v (.c (.d false (.l (a0.map eTOperatorBook))))), (1, .v (.c (.d false (.l (a1.map eTRoamingAgreement))))), (5, .v (.c (.w 0 v2.length))), (6, tI v1), (7, .v (.c (.p 1 0))), (8, tI r19), (9, tI r20), (56, tB v21)], [(0, .row 30 3 (v2.map eTStatementLine) true true), (1, .var 62 [.d false (.i .i64 x18.Home), .d false (.i .i64 x18.Visited), .d false (.i .i64 x18.Price), .d false (.i .i64 x18.Cap)])], 2⟩ ?_ ?_
      · have H := Hj
        refine wkd ?_
        refine g2 rfl rfl rfl (fun h => ?_) (fun h => ?_)
        · have H := bt h H
          refine wkd ?_
          cases H
          exact weak_of ⟨rfl, rfl, rfl, rfl, wn rfl (by first | rfl | simp), rfl, rfl, rfl, rfl, rfl, rfl, rfl, rfl, rfl, rfl, rfl, trivial⟩ ⟨rfl, ⟨rfl, rfl⟩, rfl, ⟨rfl, rfl⟩, trivial⟩
        · have H := bf h H
          refine wkd ?_
          refine g2 rfl rfl rfl (fun h => ?_) (fun h => ?_)
          · have H := bt h H
            refine wkd ?_
            cases H
            exact weak_of ⟨rfl, rfl, rfl, rfl, wn rfl (by first | rfl | simp), rfl, rfl, rfl, rfl, rfl, rfl, rfl, rfl, rfl, rfl, rfl, trivial⟩ ⟨rfl, ⟨rfl, rfl⟩, rfl, ⟨rfl, rfl⟩, trivial⟩
          · have H := bf h H
            refine wkd ?_
            obtain ⟨x22, hx22, H⟩ := ob H
            refine awr_ng rfl rfl rfl rfl (xdT (enc := eTOperatorBook) hx22 (fun _ => rfl) rfl rfl rfl) ?_
            refine wkd ?_
            obtain ⟨r23, hr23, H⟩ := ob H
            refine awr_ng rfl rfl rfl rfl (ca rfl rfl rfl (sIsValidBook_c hr23) trivial rfl rfl rfl rfl) ?_
            refine wkd ?_
            refine g2 rfl rfl rfl (fun h => ?_) (fun h => ?_)
            · have H := bt h H
              refine wkd ?_
              cases H
              exact weak_of ⟨rfl, rfl, rfl, rfl, wn rfl (by first | rfl | simp), rfl, rfl, rfl, rfl, rfl, rfl, rfl, rfl, rfl, rfl, rfl, trivial⟩ ⟨rfl, ⟨rfl, rfl⟩, rfl, ⟨rfl, rfl⟩, trivial⟩
            · have H := bf h H
              refine wkd ?_
              obtain ⟨x24, hx24, H⟩ := ob H
              refine awr_ng rfl rfl rfl rfl (xdT (enc := eTOperatorBook) hx24 (fun _ => rfl) rfl rfl rfl) ?_
              refine wkd ?_
              obtain ⟨r25, hr25, H⟩ := ob H
              refine awr_ng rfl rfl rfl rfl (ca rfl rfl rfl (sIsValidBook_c hr25) trivial rfl rfl rfl rfl) ?_
              refine wkd ?_
              cases H
              exact weak_of ⟨rfl, rfl, rfl, rfl, wn rfl (by first | rfl | simp), rfl, rfl, rfl, rfl, rfl, rfl, rfl, rfl, rfl, rfl, rfl, trivial⟩ ⟨rfl, ⟨rfl, rfl⟩, rfl, ⟨rfl, rfl⟩, trivial⟩
      refine wkd ?_
      refine awc_cond rfl (fun h => ?_) (fun h => ?_)
      · have H := bt h H
        refine wkd ?_
        cases H
        refine iq_n ?_
        exact weak_of ⟨rfl, rfl, rfl, rfl, wn rfl (by first | rfl | simp), rfl, rfl, rfl, trivial⟩ ⟨rfl, ⟨rfl, rfl⟩, trivial⟩
      · have H := bf h H
        refine wkd ?_
        obtain ⟨x26, hx26, H⟩ := ob H
        refine dr_n rfl (xdT (enc := eTOperatorBook) hx26 (fun _ => rfl) rfl rfl rfl) ?_
        refine wkd ?_
        obtain ⟨x27, hx27, H⟩ := ob H
        refine dr_n rfl (xdT (enc := eTOperatorBook) hx27 (fun _ => rfl) rfl rfl rfl) ?_
        refine wkd ?_
        obtain ⟨r28, hr28, H⟩ := ob H
        refine dr_n rfl (ca rfl rfl rfl (sAmountOwed_c hr28) trivial rfl rfl rfl rfl) ?_
        refine wkd ?_
        obtain ⟨v29, Hj, H⟩ := ob H
        refine awc_join ⟨[(0, .v (.c (.d false (.l (a0.map eTOperatorBook))))), (1, .v (.c (.d false (.l (a1.map eTRoamingAgreement))))), (5, .v (.c (.w 0 v29.length))), (6, tI v1)], [(0, .row 30 3 (v29.map eTStatementLine) true true)], 1⟩ ?_ ?_
        · have H := Hj
          refine wkd ?_
          refine awc_cond rfl (fun h => ?_) (fun h => ?_)
          · have H := bt h H
            refine wkd ?_
            obtain ⟨h, H⟩ := rq H
            refine awr_step rfl (apT (enc := eTStatementLine) (ys := v2) (zs := [(⟨x18.Home, x18.Visited, r28⟩ : TStatementLine)]) h rfl (fun _ => rfl) (by first | rfl | simp) (.w rfl (by first | rfl | exact lm _ | simp)) rfl rfl rfl rfl rfl rfl rfl rfl) ?_
            refine wkd ?_
            cases H
            exact weak_of ⟨rfl, rfl, rfl, rfl, wn rfl (by first | rfl | simp), rfl, rfl, rfl, trivial⟩ ⟨rfl, ⟨rfl, rfl⟩, trivial⟩
          · have H := bf h H
            refine wkd ?_
            cases H
            exact weak_of ⟨rfl, rfl, rfl, rfl, wn rfl (by first | rfl | simp), rfl, rfl, rfl, trivial⟩ ⟨rfl, ⟨rfl, rfl⟩, trivial⟩
        refine wkd ?_
        cases H
        refine iq_n ?_
        exact weak_of ⟨rfl, rfl, rfl, rfl, wn rfl (by first | rfl | simp), rfl, rfl, rfl, trivial⟩ ⟨rfl, ⟨rfl, rfl⟩, trivial⟩
    · have H := bf h H
      refine wkd ?_
      cases H
      refine iq_e (fun hq => ?_)
      cases hq
      refine wkd ?_
      exact weak_of ⟨wn rfl (by first | rfl | simp), rfl, trivial⟩ ⟨rfl, ⟨rfl, rfl⟩, trivial⟩
  refine wkd ?_
  cases H
  exact fin_ret (.cons (.tmp rfl) .nil) rfl rfl (by first | rfl | simp)
end Go.AM
