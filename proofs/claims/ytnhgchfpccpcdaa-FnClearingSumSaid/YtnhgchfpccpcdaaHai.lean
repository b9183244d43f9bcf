/-
  Own text: a part of the abstract machine for this seat (Hai). No statement is proved here.
-/
import Derived.Test.YtnhgchfpccpcdaaHag
set_option linter.unusedVariables false
namespace Go.AM
open Go.Proofs
attribute [local irreducible] AWN NS AWO AWR AWC DR Weak iterQ
set_option maxRecDepth 100000
set_option maxHeartbeats 4000000
def iFormatPayload_L1 (a0 : List Int) : (Int × List Int) → Option (Step (Int × List Int) (List Int))
  | (v1, v2) => bif ltB v1 ((a0.length : Nat) : Int) then (Option.bind (ix a0 v1) fun x7 => Option.bind (bIx (⟨#[48, 49, 50, 51, 52, 53, 54, 55, 56, 57, 97, 98, 99, 100, 101, 102]⟩ : ByteArray) (bShr .u8 x7 4)) fun x8 => Option.bind (bIx (⟨#[48, 49, 50, 51, 52, 53, 54, 55, 56, 57, 97, 98, 99, 100, 101, 102]⟩ : ByteArray) (bAnd .u8 x7 15)) fun x9 => bif apOk 1 (v2 ++ [x8, x9]).length then (some (.next (WR (v1 + 1), (v2 ++ [x8, x9])))) else none) else (some (.done v2))
def iFormatPayload (a0 : List Int) : Option ByteArray :=
  bif eqB ((a0.length : Nat) : Int) 0 then (some ⟨#[45]⟩) else (bif mkOk 1 0 (WR (2 * ((a0.length : Nat) : Int))) then (Option.bind (iter (iFormatPayload_L1 a0) FU (0, (List.replicate ((0 : Int)).toNat 0))) fun (v6 : List Int) => some (bsOf v6)) else none)
theorem iFormatPayload_c {a0 : List Int} {r : ByteArray} (H : iFormatPayload a0 = some r) : Fn Try.prog 13 [aL (a0.map eU8)] [.c (.d (.str r))] := by
  refine fn_in Try.func13 rfl (by kernel_rfl) Try.ntmps13 rfl rfl rfl ?_
  refine wkz ?_
  refine awc_cond rfl (fun h => ?_) (fun h => ?_)
  · have H := bt h H
    refine wkz ?_
    cases H
    exact fin_ret (.cons (.tmp rfl) .nil) rfl rfl rfl
  · have H := bf h H
    refine wkz ?_
    obtain ⟨h, H⟩ := rq H
    refine awr_n rfl (mkT (enc := eU8) (za := 0) h (by rfl) rfl rfl rfl rfl) ?_
    refine wkz ?_
    obtain ⟨v6, Hj, H⟩ := ob H
    refine awc_jblk ⟨[(3, .v (.c (.w 0 v6.length)))], [(0, .row 5 1 (v6.map eU8) true true)], 1⟩ ?_ ?_
    · refine wkz ?_
      refine awc_iter (fun (q : Int × List Int) => ⟨[(3, .v (.c (.w 0 q.2.length))), (13, .v (.c (.d false (.l (a0.map eU8))))), (14, tI ((a0.length : Nat) : Int)), (15, tI q.1)], [(0, .row 5 1 (q.2.map eU8) true true)], 1⟩) Hj (weak_of ⟨wn rfl (by first | rfl | simp), rfl, rfl, rfl, rfl, rfl, rfl, rfl, trivial⟩ ⟨rfl, ⟨rfl, rfl⟩, trivial⟩) ?_
      rintro ⟨v1, v2⟩ o H
      try dsimp only
      refine wkz ?_
      refine awc_cond rfl (fun h => ?_) (fun h => ?_)
      · have H := bt h H
        refine wkz ?_
        obtain ⟨x7, hx7, H⟩ := ob H
        refine awr_n rfl (xdT (enc := eU8) hx7 (fun _ => rfl) rfl rfl rfl) ?_
        refine wkz ?_
        refine dz_n rfl (ishL (b := 4) rfl rfl rfl rfl) ?_
        refine wkz ?_
        obtain ⟨x8, hx8, H⟩ := ob H
        refine dz_n rfl (xstT hx8 rfl rfl rfl) ?_
        refine wkz ?_
        obtain ⟨x9, hx9, H⟩ := ob H
        refine dz_n rfl (xstT hx9 rfl rfl rfl) ?_
        refine wkz ?_
        obtain ⟨h, H⟩ := rq H
        refine dz_bar (by kernel_rfl) (by kernel_rfl) weak_id (bo_n rfl (apT (enc := eU8) (ys := v2) (zs := [x8, x9]) h rfl (fun _ => rfl) (by first | rfl | simp) (.w rfl (by first | rfl | exact lm _ | simp)) rfl rfl rfl rfl rfl rfl rfl rfl)) weak_id rfl ?_
        refine wkz ?_
        cases H
        refine iq_n ?_
        exact weak_of ⟨wn rfl (by first | rfl | simp), rfl, rfl, rfl, rfl, rfl, rfl, rfl, trivial⟩ ⟨rfl, ⟨rfl, rfl⟩, trivial⟩
      · have H := bf h H
        refine wkz ?_
        cases H
        refine iq_e (fun hq => ?_)
        cases hq
        refine wkz ?_
        exact weak_of ⟨wn rfl (by first | rfl | simp), rfl, trivial⟩ ⟨rfl, ⟨rfl, rfl⟩, trivial⟩
    refine wkz ?_
    refine awr_n rfl (bt2 (xs := v6) rfl rfl (by first | rfl | simp) rfl) ?_
    refine wkz ?_
    cases H
    exact fin_ret (.cons (.tmp rfl) .nil) rfl rfl rfl
def iamountPaid_L1 (a0 : List TStatementLine) (a1 : Int) (a2 : Int) : (Int × Int) → Option (Step (Int × Int) (Int))
  | (v1, v2) => bif ltB v2 ((a0.length : Nat) : Int) then (Option.bind (ix a0 v2) fun x7 => Option.bind (bif eqB x7.Payer a1 then (some (eqB x7.Payee a2)) else (some false)) fun (v8 : Bool) => Option.bind (bif v8 then (some (WR (v1 + x7.Amount))) else (some v1)) fun (v9 : Int) => some (.next (v9, WR (v2 + 1)))) else (some (.done v1))
def iamountPaid (a0 : List TStatementLine) (a1 : Int) (a2 : Int) : Option Int :=
  Option.bind (iter (iamountPaid_L1 a0 a1 a2) FU (0, 0)) fun (v6 : Int) => some v6
theorem iamountPaid_c {a0 : List TStatementLine} {a1 : Int} {a2 : Int} {r : Int} (H : iamountPaid a0 a1 a2 = some r) : Fn Try.prog 80 [aL (a0.map eTStatementLine), aI a1, aI a2] [.c (.d (.i .i64 r))] := by
  refine fn_in Try.func80 rfl (by kernel_rfl) Try.ntmps80 rfl rfl rfl ?_
  refine wk ?_
  obtain ⟨v6, Hj, H⟩ := ob H
  refine awc_jblk ⟨[(7, tI v6)], [], 0⟩ ?_ ?_
  · refine wk ?_
    refine awc_iter (fun (q : Int × Int) => ⟨[(1, tI a1), (2, tI a2), (7, tI q.1), (10, .v (.c (.d false (.l (a0.map eTStatementLine))))), (11, tI ((a0.length : Nat) : Int)), (12, tI q.2)], [], 0⟩) Hj (weak_of ⟨rfl, rfl, rfl, rfl, rfl, rfl, rfl, rfl, rfl, rfl, rfl, rfl, trivial⟩ trivial) ?_
    rintro ⟨v1, v2⟩ o H
    try dsimp only
    refine wk ?_
    refine awc_cond rfl (fun h => ?_) (fun h => ?_)
    · have H := bt h H
      refine wk ?_
      obtain ⟨x7, hx7, H⟩ := ob H
      refine awr_n rfl (xdT (enc := eTStatementLine) hx7 (fun _ => rfl) rfl rfl rfl) ?_
      refine wk ?_
      obtain ⟨v8, Hj, H⟩ := ob H
      refine awr_join ⟨[(1, tI a1), (2, tI a2), (7, tI v1), (9, .v (.c (.p 0 0))), (10, .v (.c (.d false (.l (a0.map eTStatementLine))))), (11, tI ((a0.length : Nat) : Int)), (12, tI v2), (25, tB v8)], [(0, .var 30 [.d false (.i .i64 x7.Payer), .d false (.i .i64 x7.Payee), .d false (.i .i64 x7.Amount)])], 1⟩ ?_ ?_
      · have H := Hj
        refine wk ?_
        refine g2 rfl rfl rfl (fun h => ?_) (fun h => ?_)
        · have H := bt h H
          refine wk ?_
          cases H
          exact weak_of ⟨rfl, rfl, rfl, rfl, rfl, rfl, rfl, rfl, rfl, rfl, rfl, rfl, rfl, rfl, rfl, rfl, trivial⟩ ⟨rfl, ⟨rfl, rfl⟩, trivial⟩
        · have H := bf h H
          refine wk ?_
          cases H
          exact weak_of ⟨rfl, rfl, rfl, rfl, rfl, rfl, rfl, rfl, rfl, rfl, rfl, rfl, rfl, rfl, rfl, rfl, trivial⟩ ⟨rfl, ⟨rfl, rfl⟩, trivial⟩
      refine wk ?_
      obtain ⟨v9, Hj, H⟩ := ob H
      refine awc_join ⟨[(1, tI a1), (2, tI a2), (7, tI v9), (10, .v (.c (.d false (.l (a0.map eTStatementLine))))), (11, tI ((a0.length : Nat) : Int)), (12, tI v2)], [], 0⟩ ?_ ?_
      · have H := Hj
        refine wk ?_
        refine awc_cond rfl (fun h => ?_) (fun h => ?_)
        · have H := bt h H
          refine wk ?_
          cases H
          exact weak_of ⟨rfl, rfl, rfl, rfl, rfl, rfl, rfl, rfl, rfl, rfl, rfl, rfl, trivial⟩ trivial
        · have H := bf h H
          refine wk ?_
          cases H
          exact weak_of ⟨rfl, rfl, rfl, rfl, rfl, rfl, rfl, rfl, rfl, rfl, rfl, rfl, trivial⟩ trivial
      refine wk ?_
      cases H
      refine iq_n ?_
      exact weak_of ⟨rfl, rfl, rfl, rfl, rfl, rfl, rfl, rfl, rfl, rfl, rfl, rfl, trivial⟩ trivial
    · have H := bf h H
      refine wk ?_
      cases H
      refine iq_e (fun hq => ?_)
      cases hq
      refine wk ?_
      exact weak_of ⟨rfl, rfl, trivial⟩ trivial
  refine wk ?_
  cases H
  exact fin_ret (.cons (.tmp rfl) .nil) rfl rfl rfl
def iNetPayments_L2 (a0 : List TStatementLine) (v1 : Int) : (Int × List TStatementLine) → Option (Step (Int × List TStatementLine) (List TStatementLine))
  | (v15, v16) => bif ltB v15 4 then (Option.bind (iamountPaid a0 v1 v15) fun r22 => Option.bind (iamountPaid a0 v15 v1) fun r23 => Option.bind (bif ltB 0 (WR (r22 - r23)) then (bif apOk 24 (v16 ++ [(⟨v1, v15, WR (r22 - r23)⟩ : TStatementLine)]).length then (some (v16 ++ [(⟨v1, v15, WR (r22 - r23)⟩ : TStatementLine)])) else none) else (Option.bind (bif ltB (WR (r22 - r23)) 0 then (bif apOk 24 (v16 ++ [(⟨v15, v1, WR (0 - (WR (r22 - r23)))⟩ : TStatementLine)]).length then (some (v16 ++ [(⟨v15, v1, WR (0 - (WR (r22 - r23)))⟩ : TStatementLine)])) else none) else (some v16)) fun (v25 : List TStatementLine) => some v25)) fun (v24 : List TStatementLine) => some (.next (WR (v15 + 1), v24))) else (some (.done v16))
def iNetPayments_L1 (a0 : List TStatementLine) : (Int × List TStatementLine) → Option (Step (Int × List TStatementLine) (List TStatementLine))
  | (v1, v2) => bif ltB v1 4 then (Option.bind (iter (iNetPayments_L2 a0 v1) FU (WR (v1 + 1), v2)) fun (v21 : List TStatementLine) => some (.next (WR (v1 + 1), v21))) else (some (.done v2))
def iNetPayments (a0 : List TStatementLine) : Option (List TStatementLine) :=
  Option.bind (iter (iNetPayments_L1 a0) FU (0, ([] : List TStatementLine))) fun (v14 : List TStatementLine) => some v14
theorem iNetPayments_c {a0 : List TStatementLine} {r : List TStatementLine} (H : iNetPayments a0 = some r) : Fn Try.prog 17 [aL (a0.map eTStatementLine)] [.c (.own 30 3 (r.map eTStatementLine) r.length)] := by
  refine fn_in Try.func17 rfl (by kernel_rfl) Try.ntmps17 rfl rfl rfl ?_
  refine wk ?_
  obtain ⟨v14, Hj, H⟩ := ob H
  refine awc_jblk ⟨[(3, .v (.c (.w 0 v14.length)))], [(0, .row 30 3 (v14.map eTStatementLine) true true)], 1⟩ ?_ ?_
  · refine wk ?_
    refine awc_iter (fun (q : Int × List TStatementLine) => ⟨[(0, .v (.c (.d false (.l (a0.map eTStatementLine))))), (3, .v (.c (.w 0 q.2.length))), (4, tI q.1)], [(0, .row 30 3 (q.2.map eTStatementLine) true true)], 1⟩) Hj (weak_of ⟨rfl, rfl, wn rfl (by first | rfl | simp), rfl, rfl, rfl, trivial⟩ ⟨rfl, ⟨rfl, rfl⟩, trivial⟩) ?_
    rintro ⟨v1, v2⟩ o H
    try dsimp only
    refine wk ?_
    refine awc_cond rfl (fun h => ?_) (fun h => ?_)
    · have H := bt h H
      refine wk ?_
      obtain ⟨v21, Hj, H⟩ := ob H
      refine awc_jblk ⟨[(0, .v (.c (.d false (.l (a0.map eTStatementLine))))), (3, .v (.c (.w 0 v21.length))), (4, tI v1)], [(0, .row 30 3 (v21.map eTStatementLine) true true)], 1⟩ ?_ ?_
      · refine wk ?_
        refine awc_iter (fun (q : Int × List TStatementLine) => ⟨[(0, .v (.c (.d false (.l (a0.map eTStatementLine))))), (3, .v (.c (.w 0 q.2.length))), (4, tI v1), (5, tI q.1)], [(0, .row 30 3 (q.2.map eTStatementLine) true true)], 1⟩) Hj (weak_of ⟨rfl, rfl, wn rfl (by first | rfl | simp), rfl, rfl, rfl, rfl, rfl, trivial⟩ ⟨rfl, ⟨rfl, rfl⟩, trivial⟩) ?_
        rintro ⟨v15, v16⟩ o H
        try dsimp only
        refine wk ?_
        refine awc_cond rfl (fun h => ?_) (fun h => ?_)
        · have H := bt h H
          refine wk ?_
          obtain ⟨r22, hr22, H⟩ := ob H
          refine awr_n rfl (ca rfl rfl rfl (iamountPaid_c hr22) trivial rfl rfl rfl rfl) ?_
          refine wk ?_
          obtain ⟨r23, hr23, H⟩ := ob H
          refine awr_n rfl (ca rfl rfl rfl (iamountPaid_c hr23) trivial rfl rfl rfl rfl) ?_
          refine wk ?_
          obtain ⟨v24, Hj, H⟩ := ob H
          refine awc_join ⟨[(0, .v (.c (.d false (.l (a0.map eTStatementLine))))), (3, .v (.c (.w 0 v24.length))), (4, tI v1), (5, tI v15)], [(0, .row 30 3 (v24.map eTStatementLine) true true)], 1⟩ ?_ ?_
          · have H := Hj
            refine wk ?_
            refine awc_cond rfl (fun h => ?_) (fun h => ?_)
            · have H := bt h H
              refine wk ?_
              obtain ⟨h, H⟩ := rq H
              refine awr_step rfl (apT (enc := eTStatementLine) (ys := v16) (zs := [(⟨v1, v15, WR (r22 - r23)⟩ : TStatementLine)]) h rfl (fun _ => rfl) (by first | rfl | simp) (.w rfl (by first | rfl | exact lm _ | simp)) rfl rfl rfl rfl rfl rfl rfl rfl) ?_
              refine wk ?_
              cases H
              exact weak_of ⟨rfl, rfl, wn rfl (by first | rfl | simp), rfl, rfl, rfl, rfl, rfl, trivial⟩ ⟨rfl, ⟨rfl, rfl⟩, trivial⟩
            · have H := bf h H
              refine wk ?_
              obtain ⟨v25, Hj, H⟩ := ob H
              refine awc_join ⟨[(0, .v (.c (.d false (.l (a0.map eTStatementLine))))), (3, .v (.c (.w 0 v25.length))), (4, tI v1), (5, tI v15)], [(0, .row 30 3 (v25.map eTStatementLine) true true)], 1⟩ ?_ ?_
              · have H := Hj
                refine wk ?_
                refine awc_cond rfl (fun h => ?_) (fun h => ?_)
                · have H := bt h H
                  refine wk ?_
                  obtain ⟨h, H⟩ := rq H
                  refine awr_step rfl (apT (enc := eTStatementLine) (ys := v16) (zs := [(⟨v15, v1, WR (0 - (WR (r22 - r23)))⟩ : TStatementLine)]) h rfl (fun _ => rfl) (by first | rfl | simp) (.w rfl (by first | rfl | exact lm _ | simp)) rfl rfl rfl rfl rfl rfl rfl rfl) ?_
                  refine wk ?_
                  cases H
                  exact weak_of ⟨rfl, rfl, wn rfl (by first | rfl | simp), rfl, rfl, rfl, rfl, rfl, trivial⟩ ⟨rfl, ⟨rfl, rfl⟩, trivial⟩
                · have H := bf h H
                  refine wk ?_
                  cases H
                  exact weak_of ⟨rfl, rfl, wn rfl (by first | rfl | simp), rfl, rfl, rfl, rfl, rfl, trivial⟩ ⟨rfl, ⟨rfl, rfl⟩, trivial⟩
              refine wk ?_
              cases H
              exact weak_of ⟨rfl, rfl, wn rfl (by first | rfl | simp), rfl, rfl, rfl, rfl, rfl, trivial⟩ ⟨rfl, ⟨rfl, rfl⟩, trivial⟩
          refine wk ?_
          cases H
          refine iq_n ?_
          exact weak_of ⟨rfl, rfl, wn rfl (by first | rfl | simp), rfl, rfl, rfl, rfl, rfl, trivial⟩ ⟨rfl, ⟨rfl, rfl⟩, trivial⟩
        · have H := bf h H
          refine wk ?_
          cases H
          refine iq_e (fun hq => ?_)
          cases hq
          refine wk ?_
          exact weak_of ⟨rfl, rfl, wn rfl (by first | rfl | simp), rfl, rfl, rfl, trivial⟩ ⟨rfl, ⟨rfl, rfl⟩, trivial⟩
      refine wk ?_
      cases H
      refine iq_n ?_
      exact weak_of ⟨rfl, rfl, wn rfl (by first | rfl | simp), rfl, rfl, rfl, trivial⟩ ⟨rfl, ⟨rfl, rfl⟩, trivial⟩
    · have H := bf h H
      refine wk ?_
      cases H
      refine iq_e (fun hq => ?_)
      cases hq
      refine wk ?_
      exact weak_of ⟨wn rfl (by first | rfl | simp), rfl, trivial⟩ ⟨rfl, ⟨rfl, rfl⟩, trivial⟩
  refine wk ?_
  cases H
  exact fin_ret (.cons (.tmp rfl) .nil) rfl rfl (by first | rfl | simp)
def iNetPosition_L1 (a0 : List TStatementLine) (a1 : Int) : (Int × Int) → Option (Step (Int × Int) (Int))
  | (v1, v2) => bif ltB v2 ((a0.length : Nat) : Int) then (Option.bind (ix a0 v2) fun x7 => Option.bind (bif eqB x7.Payee a1 then (some (WR (v1 + x7.Amount))) else (some v1)) fun (v8 : Int) => Option.bind (bif eqB x7.Payer a1 then (some (WR (v8 - x7.Amount))) else (some v8)) fun (v9 : Int) => some (.next (v9, WR (v2 + 1)))) else (some (.done v1))
def iNetPosition (a0 : List TStatementLine) (a1 : Int) : Option Int :=
  Option.bind (iter (iNetPosition_L1 a0 a1) FU (0, 0)) fun (v6 : Int) => some v6
theorem iNetPosition_c {a0 : List TStatementLine} {a1 : Int} {r : Int} (H : iNetPosition a0 a1 = some r) : Fn Try.prog 18 [aL (a0.map eTStatementLine), aI a1] [.c (.d (.i .i64 r))] := by
  refine fn_in Try.func18 rfl (by kernel_rfl) Try.ntmps18 rfl rfl rfl ?_
  refine wk ?_
  obtain ⟨v6, Hj, H⟩ := ob H
  refine awc_jblk ⟨[(5, tI v6)], [], 0⟩ ?_ ?_
  · refine wk ?_
    refine awc_iter (fun (q : Int × Int) => ⟨[(1, tI a1), (5, tI q.1), (8, .v (.c (.d false (.l (a0.map eTStatementLine))))), (9, tI ((a0.length : Nat) : Int)), (10, tI q.2)], [], 0⟩) Hj (weak_of ⟨rfl, rfl, rfl, rfl, rfl, rfl, rfl, rfl, rfl, rfl, trivial⟩ trivial) ?_
    rintro ⟨v1, v2⟩ o H
    try dsimp only
    refine wk ?_
    refine awc_cond rfl (fun h => ?_) (fun h => ?_)
    · have H := bt h H
      refine wk ?_
      obtain ⟨x7, hx7, H⟩ := ob H
      refine awr_n rfl (xdT (enc := eTStatementLine) hx7 (fun _ => rfl) rfl rfl rfl) ?_
      refine wk ?_
      obtain ⟨v8, Hj, H⟩ := ob H
      refine awc_join ⟨[(1, tI a1), (5, tI v8), (7, .v (.c (.p 0 0))), (8, .v (.c (.d false (.l (a0.map eTStatementLine))))), (9, tI ((a0.length : Nat) : Int)), (10, tI v2)], [(0, .var 30 [.d false (.i .i64 x7.Payer), .d false (.i .i64 x7.Payee), .d false (.i .i64 x7.Amount)])], 1⟩ ?_ ?_
      · have H := Hj
        refine wk ?_
        refine awc_cond rfl (fun h => ?_) (fun h => ?_)
        · have H := bt h H
          refine wk ?_
          cases H
          exact weak_of ⟨rfl, rfl, rfl, rfl, rfl, rfl, rfl, rfl, rfl, rfl, rfl, rfl, trivial⟩ ⟨rfl, ⟨rfl, rfl⟩, trivial⟩
        · have H := bf h H
          refine wk ?_
          cases H
          exact weak_of ⟨rfl, rfl, rfl, rfl, rfl, rfl, rfl, rfl, rfl, rfl, rfl, rfl, trivial⟩ ⟨rfl, ⟨rfl, rfl⟩, trivial⟩
      refine wk ?_
      obtain ⟨v9, Hj, H⟩ := ob H
      refine awc_join ⟨[(1, tI a1), (5, tI v9), (8, .v (.c (.d false (.l (a0.map eTStatementLine))))), (9, tI ((a0.length : Nat) : Int)), (10, tI v2)], [], 0⟩ ?_ ?_
      · have H := Hj
        refine wk ?_
        refine awc_cond rfl (fun h => ?_) (fun h => ?_)
        · have H := bt h H
          refine wk ?_
          cases H
          exact weak_of ⟨rfl, rfl, rfl, rfl, rfl, rfl, rfl, rfl, rfl, rfl, trivial⟩ trivial
        · have H := bf h H
          refine wk ?_
          cases H
          exact weak_of ⟨rfl, rfl, rfl, rfl, rfl, rfl, rfl, rfl, rfl, rfl, trivial⟩ trivial
      refine wk ?_
      cases H
      refine iq_n ?_
      exact weak_of ⟨rfl, rfl, rfl, rfl, rfl, rfl, rfl, rfl, rfl, rfl, trivial⟩ trivial
    · have H := bf h H
      refine wk ?_
      cases H
      refine iq_e (fun hq => ?_)
      cases hq
      refine wk ?_
      exact weak_of ⟨rfl, rfl, trivial⟩ trivial
  refine wk ?_
  cases H
  exact fin_ret (.cons (.tmp rfl) .nil) rfl rfl rfl
def iTotalTurnover_L1 (a0 : List TStatementLine) : (Int × Int) → Option (Step (Int × Int) (Int))
  | (v1, v2) => bif ltB v2 ((a0.length : Nat) : Int) then (Option.bind (ix a0 v2) fun x5 => some (.next (WR (v1 + x5.Amount), WR (v2 + 1)))) else (some (.done v1))
def iTotalTurnover (a0 : List TStatementLine) : Option Int :=
  Option.bind (iter (iTotalTurnover_L1 a0) FU (0, 0)) fun (v4 : Int) => some v4
theorem iTotalTurnover_c {a0 : List TStatementLine} {r : Int} (H : iTotalTurnover a0 = some r) : Fn Try.prog 20 [aL (a0.map eTStatementLine)] [.c (.d (.i .i64 r))] := by
  refine fn_in Try.func20 rfl (by kernel_rfl) Try.ntmps20 rfl rfl rfl ?_
  refine wk ?_
  obtain ⟨v4, Hj, H⟩ := ob H
  refine awc_jblk ⟨[(3, tI v4)], [], 0⟩ ?_ ?_
  · refine wk ?_
    refine awc_iter (fun (q : Int × Int) => ⟨[(3, tI q.1), (6, .v (.c (.d false (.l (a0.map eTStatementLine))))), (7, tI ((a0.length : Nat) : Int)), (8, tI q.2)], [], 0⟩) Hj (weak_of ⟨rfl, rfl, rfl, rfl, rfl, rfl, rfl, rfl, trivial⟩ trivial) ?_
    rintro ⟨v1, v2⟩ o H
    try dsimp only
    refine wk ?_
    refine awc_cond rfl (fun h => ?_) (fun h => ?_)
    · have H := bt h H
      refine wk ?_
      obtain ⟨x5, hx5, H⟩ := ob H
      refine awr_n rfl (xdT (enc := eTStatementLine) hx5 (fun _ => rfl) rfl rfl rfl) ?_
      refine wk ?_
      cases H
      refine iq_n ?_
      exact weak_of ⟨rfl, rfl, rfl, rfl, rfl, rfl, rfl, rfl, trivial⟩ trivial
    · have H := bf h H
      refine wk ?_
      cases H
      refine iq_e (fun hq => ?_)
      cases hq
      refine wk ?_
      exact weak_of ⟨rfl, rfl, trivial⟩ trivial
  refine wk ?_
  cases H
  exact fin_ret (.cons (.tmp rfl) .nil) rfl rfl rfl
def iMin (a0 : Int) (a1 : Int) : Option Int :=
  bif ltB a1 a0 then (some a1) else (some a0)
theorem iMin_c {a0 : Int} {a1 : Int} {r : Int} (H : iMin a0 a1 = some r) : Fn Try.prog 96 [aI a0, aI a1] [.c (.d (.i .i64 r))] := by
  refine fn_in Try.func96 rfl (by kernel_rfl) Try.ntmps96 rfl rfl rfl ?_
  refine wk ?_
  refine awc_cond rfl (fun h => ?_) (fun h => ?_)
  · have H := bt h H
    refine wk ?_
    cases H
    exact fin_ret (.cons (.tmp rfl) .nil) rfl rfl rfl
  · have H := bf h H
    refine wk ?_
    cases H
    exact fin_ret (.cons (.tmp rfl) .nil) rfl rfl rfl
def iEqualInts (a0 : List Int) (a1 : List Int) : Option Bool :=
  Option.bind (gslices_Equal_int_int a0 a1) fun r1 => some r1
theorem iEqualInts_c {a0 : List Int} {a1 : List Int} {r : Bool} (H : iEqualInts a0 a1 = some r) : Fn Try.prog 164 [aL (a0.map eI), aL (a1.map eI)] [.c (.d (.b r))] := by
  refine fn_in Try.func164 rfl (by kernel_rfl) Try.ntmps164 rfl rfl rfl ?_
  refine wk ?_
  obtain ⟨r1, hr1, H⟩ := ob H
  refine awr_n rfl (ca rfl rfl rfl (gslices_Equal_int_int_c hr1) trivial rfl rfl rfl rfl) ?_
  refine wk ?_
  cases H
  exact fin_ret (.cons (.tmp rfl) .nil) rfl rfl rfl
def iIsPrefixPath (a0 : TKeyPath) (a1 : TKeyPath) : Option Bool :=
  Option.bind (bif leB ((a0.Steps.length : Nat) : Int) ((a1.Steps.length : Nat) : Int) then (bif slOk a1.Steps 0 ((a0.Steps.length : Nat) : Int) then (Option.bind (iEqualInts a0.Steps (a1.Steps.take (((a0.Steps.length : Nat) : Int)).toNat)) fun r2 => some r2) else none) else (some false)) fun (v1 : Bool) => some v1
theorem iIsPrefixPath_c {a0 : TKeyPath} {a1 : TKeyPath} {r : Bool} (H : iIsPrefixPath a0 a1 = some r) : Fn Try.prog 144 [.agg (eTKeyPath a0), .agg (eTKeyPath a1)] [.c (.d (.b r))] := by
  refine fn_in Try.func144 rfl (by kernel_rfl) Try.ntmps144 rfl rfl rfl ?_
  refine wkd ?_
  obtain ⟨v1, Hj, H⟩ := ob H
  refine dr_join ⟨[(4, tB v1)], [], 0⟩ ?_ ?_
  · have H := Hj
    refine wkd ?_
    refine dg2 rfl rfl rfl (fun h => ?_) (fun h => ?_)
    · have H := bt h H
      refine wkd ?_
      obtain ⟨h, H⟩ := rq H
      refine dr_ng rfl rfl rfl rfl (cdhT (enc := eI) h (fun _ => rfl) rfl rfl rfl) ?_
      refine wkd ?_
      obtain ⟨r2, hr2, H⟩ := ob H
      refine dr_ng rfl rfl rfl rfl (ca rfl rfl rfl (iEqualInts_c hr2) trivial rfl rfl rfl rfl) ?_
      refine wkd ?_
      cases H
      exact weak_of ⟨rfl, rfl, trivial⟩ trivial
    · have H := bf h H
      refine wkd ?_
      cases H
      exact weak_of ⟨rfl, rfl, trivial⟩ trivial
  refine wkd ?_
  cases H
  exact fin_ret (.cons (.tmp rfl) .nil) rfl rfl rfl
def iExposes_L1 (a0 : List TLeakedKey) (a1 : Int) (a2 : TKeyPath) : Int → Option (Step (Int) (Bool))
  | v1 => bif ltB v1 ((a0.length : Nat) : Int) then (Option.bind (ix a0 v1) fun x2 => Option.bind (bif eqB x2.Generation a1 then (Option.bind (iIsPrefixPath x2.Path a2) fun r4 => some r4) else (some false)) fun (v3 : Bool) => bif v3 then (dn (some true)) else (some (.next (WR (v1 + 1))))) else (dn (some false))
def iExposes (a0 : List TLeakedKey) (a1 : Int) (a2 : TKeyPath) : Option Bool :=
  iter (iExposes_L1 a0 a1 a2) FU 0
theorem iExposes_c {a0 : List TLeakedKey} {a1 : Int} {a2 : TKeyPath} {r : Bool} (H : iExposes a0 a1 a2 = some r) : Fn Try.prog 97 [aL (a0.map eTLeakedKey), aI a1, .agg (eTKeyPath a2)] [.c (.d (.b r))] := by
  refine fn_in Try.func97 rfl (by kernel_rfl) Try.ntmps97 rfl rfl rfl ?_
  refine wk ?_
  refine awc_iter (fun (q : Int) => ⟨[(1, tI a1), (5, .v (.c (.p 0 0))), (9, .v (.c (.d false (.l (a0.map eTLeakedKey))))), (10, tI ((a0.length : Nat) : Int)), (11, tI q)], [(0, .var 129 [.d false (.l (a2.Steps.map eI))])], 1⟩) H (weak_of ⟨rfl, rfl, rfl, rfl, rfl, rfl, rfl, rfl, rfl, rfl, trivial⟩ ⟨rfl, ⟨rfl, rfl⟩, trivial⟩) ?_
  rintro v1 o H
  try dsimp only
  refine wk ?_
  refine awc_cond rfl (fun h => ?_) (fun h => ?_)
  · have H := bt h H
    refine wk ?_
    obtain ⟨x2, hx2, H⟩ := ob H
    refine awr_n rfl (xdT (enc := eTLeakedKey) hx2 (fun _ => rfl) rfl rfl rfl) ?_
    refine wk ?_
    obtain ⟨v3, Hj, H⟩ := ob H
    refine awr_join ⟨[(1, tI a1), (5, .v (.c (.p 0 0))), (9, .v (.c (.d false (.l (a0.map eTLeakedKey))))), (10, tI ((a0.length : Nat) : Int)), (11, tI v1), (24, tB v3)], [(0, .var 129 [.d false (.l (a2.Steps.map eI))])], 1⟩ ?_ ?_
    · have H := Hj
      refine wk ?_
      refine g2 rfl rfl rfl (fun h => ?_) (fun h => ?_)
      · have H := bt h H
        refine wk ?_
        obtain ⟨r4, hr4, H⟩ := ob H
        refine awr_ng rfl rfl rfl rfl (ca rfl rfl rfl (iIsPrefixPath_c hr4) trivial rfl rfl rfl rfl) ?_
        refine wk ?_
        cases H
        exact weak_of ⟨rfl, rfl, rfl, rfl, rfl, rfl, rfl, rfl, rfl, rfl, rfl, rfl, trivial⟩ ⟨rfl, ⟨rfl, rfl⟩, trivial⟩
      · have H := bf h H
        refine wk ?_
        cases H
        exact weak_of ⟨rfl, rfl, rfl, rfl, rfl, rfl, rfl, rfl, rfl, rfl, rfl, rfl, trivial⟩ ⟨rfl, ⟨rfl, rfl⟩, trivial⟩
    refine wk ?_
    refine awc_cond rfl (fun h => ?_) (fun h => ?_)
    · have H := bt h H
      refine wk ?_
      obtain ⟨r0, Hd, rfl⟩ := dnE H
      refine iq_r (fun hq => ?_)
      have H := Hd.trans (congrArg some hq)
      refine wk ?_
      cases H
      exact fin_ret (.cons (.tmp rfl) .nil) rfl rfl rfl
    · have H := bf h H
      refine wk ?_
      cases H
      refine iq_n ?_
      exact weak_of ⟨rfl, rfl, rfl, rfl, rfl, rfl, rfl, rfl, rfl, rfl, trivial⟩ ⟨rfl, ⟨rfl, rfl⟩, trivial⟩
  · have H := bf h H
    refine wk ?_
    obtain ⟨r0, Hd, rfl⟩ := dnE H
    refine iq_e (fun hq => ?_)
    have H := Hd.trans (congrArg some hq)
    refine wk ?_
    cases H
    exact fin_ret (.cons (.tmp rfl) .nil) rfl rfl rfl
def iRadioKeyPath (a0 : Int) : Option TKeyPath :=
  some (⟨[1, 3, a0]⟩ : TKeyPath)
theorem iRadioKeyPath_c {a0 : Int} {r : TKeyPath} (H : iRadioKeyPath a0 = some r) : Fn Try.prog 98 [aI a0] [.agg [.own 3 1 (r.Steps.map eI) r.Steps.length]] := by
  refine fn_in Try.func98 rfl (by kernel_rfl) Try.ntmps98 rfl rfl rfl ?_
  refine wk ?_
  cases H
  exact fin_ret (.cons (.cell rfl rfl rfl) .nil) rfl rfl (by first | rfl | simp)
def iReadableEpochs_L1 (a0 : List TLeakedKey) (a1 : Int) (a2 : Int) : (Int × List Int) → Option (Step (Int × List Int) (List Int))
  | (v1, v2) => Option.bind (iMin a2 50) fun r8 => bif leB v1 r8 then (Option.bind (iRadioKeyPath v1) fun r9 => Option.bind (iExposes a0 a1 r9) fun r10 => Option.bind (bif r10 then (bif apOk 8 (v2 ++ [v1]).length then (some (v2 ++ [v1])) else none) else (some v2)) fun (v11 : List Int) => some (.next (WR (v1 + 1), v11))) else (some (.done v2))
def iReadableEpochs (a0 : List TLeakedKey) (a1 : Int) (a2 : Int) : Option (List Int) :=
  Option.bind (iter (iReadableEpochs_L1 a0 a1 a2) FU (1, ([] : List Int))) fun (v7 : List Int) => some v7
theorem iReadableEpochs_c {a0 : List TLeakedKey} {a1 : Int} {a2 : Int} {r : List Int} (H : iReadableEpochs a0 a1 a2 = some r) : Fn Try.prog 39 [aL (a0.map eTLeakedKey), aI a1, aI a2] [.c (.own 3 1 (r.map eI) r.length)] := by
  refine fn_in Try.func39 rfl (by kernel_rfl) Try.ntmps39 rfl rfl rfl ?_
  refine wk ?_
  obtain ⟨v7, Hj, H⟩ := ob H
  refine awc_jblk ⟨[(7, .v (.c (.w 0 v7.length)))], [(0, .row 3 1 (v7.map eI) true true)], 1⟩ ?_ ?_
  · refine wk ?_
    refine awc_iter (fun (q : Int × List Int) => ⟨[(0, .v (.c (.d false (.l (a0.map eTLeakedKey))))), (1, tI a1), (2, tI a2), (7, .v (.c (.w 0 q.2.length))), (8, tI q.1)], [(0, .row 3 1 (q.2.map eI) true true)], 1⟩) Hj (weak_of ⟨rfl, rfl, rfl, rfl, rfl, rfl, wn rfl (by first | rfl | simp), rfl, rfl, rfl, trivial⟩ ⟨rfl, ⟨rfl, rfl⟩, trivial⟩) ?_
    rintro ⟨v1, v2⟩ o H
    try dsimp only
    refine wk ?_
    obtain ⟨r8, hr8, H⟩ := ob H
    refine awr_n rfl (ca rfl rfl rfl (iMin_c hr8) trivial rfl rfl rfl rfl) ?_
    refine wk ?_
    refine awc_cond rfl (fun h => ?_) (fun h => ?_)
    · have H := bt h H
      refine wk ?_
      obtain ⟨r9, hr9, H⟩ := ob H
      refine awr_n rfl (ca rfl rfl rfl (iRadioKeyPath_c hr9) trivial rfl rfl rfl rfl) ?_
      refine wk ?_
      obtain ⟨r10, hr10, H⟩ := ob H
      refine awr_n rfl (ca rfl rfl rfl (iExposes_c hr10) ⟨by first | rfl | exact lm _, trivial⟩ rfl rfl rfl rfl) ?_
      refine wk ?_
      obtain ⟨v11, Hj, H⟩ := ob H
      refine awc_join ⟨[(0, .v (.c (.d false (.l (a0.map eTLeakedKey))))), (1, tI a1), (2, tI a2), (7, .v (.c (.w 0 v11.length))), (8, tI v1)], [(0, .row 3 1 (v11.map eI) true true)], 1⟩ ?_ ?_
      · have H := Hj
        refine wk ?_
        refine awc_cond rfl (fun h => ?_) (fun h => ?_)
        · have H := bt h H
          refine wk ?_
          obtain ⟨h, H⟩ := rq H
          refine awr_step rfl (apT (enc := eI) (ys := v2) (zs := [v1]) h rfl (fun _ => rfl) (by first | rfl | simp) (.w rfl (by first | rfl | exact lm _ | simp)) rfl rfl rfl rfl rfl rfl rfl rfl) ?_
          refine wk ?_
          cases H
          exact weak_of ⟨rfl, rfl, rfl, rfl, rfl, rfl, wn rfl (by first | rfl | simp), rfl, rfl, rfl, trivial⟩ ⟨rfl, ⟨rfl, rfl⟩, trivial⟩
        · have H := bf h H
          refine wk ?_
          cases H
          exact weak_of ⟨rfl, rfl, rfl, rfl, rfl, rfl, wn rfl (by first | rfl | simp), rfl, rfl, rfl, trivial⟩ ⟨rfl, ⟨rfl, rfl⟩, trivial⟩
      refine wk ?_
      cases H
      refine iq_n ?_
      exact weak_of ⟨rfl, rfl, rfl, rfl, rfl, rfl, wn rfl (by first | rfl | simp), rfl, rfl, rfl, trivial⟩ ⟨rfl, ⟨rfl, rfl⟩, trivial⟩
    · have H := bf h H
      refine wk ?_
      cases H
      refine iq_e (fun hq => ?_)
      cases hq
      refine wk ?_
      exact weak_of ⟨wn rfl (by first | rfl | simp), rfl, trivial⟩ ⟨rfl, ⟨rfl, rfl⟩, trivial⟩
  refine wk ?_
  cases H
  exact fin_ret (.cons (.tmp rfl) .nil) rfl rfl (by first | rfl | simp)
def iFindBook_L1 (a0 : List TOperatorBook) (a1 : Int) : Int → Option (Step (Int) (Int))
  | v1 => bif ltB v1 ((a0.length : Nat) : Int) then (Option.bind (ix a0 v1) fun x2 => bif eqB x2.Network a1 then (dn (some v1)) else (some (.next (WR (v1 + 1))))) else (dn (some (-1)))
def iFindBook (a0 : List TOperatorBook) (a1 : Int) : Option Int :=
  iter (iFindBook_L1 a0 a1) FU 0
theorem iFindBook_c {a0 : List TOperatorBook} {a1 : Int} {r : Int} (H : iFindBook a0 a1 = some r) : Fn Try.prog 115 [aL (a0.map eTOperatorBook), aI a1] [.c (.d (.i .i64 r))] := by
  refine fn_in Try.func115 rfl (by kernel_rfl) Try.ntmps115 rfl rfl rfl ?_
  refine wk ?_
  refine awc_iter (fun (q : Int) => ⟨[(1, tI a1), (7, .v (.c (.d false (.l (a0.map eTOperatorBook))))), (8, tI ((a0.length : Nat) : Int)), (9, tI q)], [], 0⟩) H (weak_of ⟨rfl, rfl, rfl, rfl, rfl, rfl, rfl, rfl, trivial⟩ trivial) ?_
  rintro v1 o H
  try dsimp only
  refine wk ?_
  refine awc_cond rfl (fun h => ?_) (fun h => ?_)
  · have H := bt h H
    refine wk ?_
    obtain ⟨x2, hx2, H⟩ := ob H
    refine awr_n rfl (xdT (enc := eTOperatorBook) hx2 (fun _ => rfl) rfl rfl rfl) ?_
    refine wk ?_
    refine awc_cond rfl (fun h => ?_) (fun h => ?_)
    · have H := bt h H
      refine wk ?_
      obtain ⟨r0, Hd, rfl⟩ := dnE H
      refine iq_r (fun hq => ?_)
      have H := Hd.trans (congrArg some hq)
      refine wk ?_
      cases H
      exact fin_ret (.cons (.tmp rfl) .nil) rfl rfl rfl
    · have H := bf h H
      refine wk ?_
      cases H
      refine iq_n ?_
      exact weak_of ⟨rfl, rfl, rfl, rfl, rfl, rfl, rfl, rfl, trivial⟩ trivial
  · have H := bf h H
    refine wk ?_
    obtain ⟨r0, Hd, rfl⟩ := dnE H
    refine iq_e (fun hq => ?_)
    have H := Hd.trans (congrArg some hq)
    refine wk ?_
    cases H
    exact fin_ret (.cons (.tmp rfl) .nil) rfl rfl rfl
def iInRange (a0 : Int) (a1 : Int) (a2 : Int) : Option Bool :=
  Option.bind (bif leB a1 a0 then (some (leB a0 a2)) else (some false)) fun (v1 : Bool) => some v1
theorem iInRange_c {a0 : Int} {a1 : Int} {a2 : Int} {r : Bool} (H : iInRange a0 a1 a2 = some r) : Fn Try.prog 87 [aI a0, aI a1, aI a2] [.c (.d (.b r))] := by
  refine fn_in Try.func87 rfl (by kernel_rfl) Try.ntmps87 rfl rfl rfl ?_
  refine wk ?_
  obtain ⟨v1, Hj, H⟩ := ob H
  refine awr_join ⟨[(6, tB v1)], [], 0⟩ ?_ ?_
  · have H := Hj
    refine wk ?_
    refine g2 rfl rfl rfl (fun h => ?_) (fun h => ?_)
    · have H := bt h H
      refine wk ?_
      cases H
      exact weak_of ⟨rfl, rfl, trivial⟩ trivial
    · have H := bf h H
      refine wk ?_
      cases H
      exact weak_of ⟨rfl, rfl, trivial⟩ trivial
  refine wk ?_
  cases H
  exact fin_ret (.cons (.tmp rfl) .nil) rfl rfl rfl
def iIsValidRecord (a0 : TUsageRecord) : Option Bool :=
  Option.bind (iInRange a0.Network 0 3) fun r1 => Option.bind (bif r1 then (bif leB 0 a0.SessionID then (Option.bind (iInRange a0.Seq 1 100000) fun r3 => bif r3 then (Option.bind (iInRange a0.Bytes 0 100000) fun r4 => some r4) else (some false)) else (some false)) else (some false)) fun (v2 : Bool) => some v2
theorem iIsValidRecord_c {a0 : TUsageRecord} {r : Bool} (H : iIsValidRecord a0 = some r) : Fn Try.prog 170 [.agg (eTUsageRecord a0)] [.c (.d (.b r))] := by
  refine fn_in Try.func170 rfl (by kernel_rfl) Try.ntmps170 rfl rfl rfl ?_
  refine wk ?_
  obtain ⟨r1, hr1, H⟩ := ob H
  refine awr_n rfl (ca rfl rfl rfl (iInRange_c hr1) trivial rfl rfl rfl rfl) ?_
  refine wk ?_
  obtain ⟨v2, Hj, H⟩ := ob H
  refine awr_join ⟨[(2, tB v2)], [], 0⟩ ?_ ?_
  · have H := Hj
    refine wk ?_
    refine g2 rfl rfl rfl (fun h => ?_) (fun h => ?_)
    · have H := bt h H
      refine wk ?_
      refine g2 rfl rfl rfl (fun h => ?_) (fun h => ?_)
      · have H := bt h H
        refine wk ?_
        obtain ⟨r3, hr3, H⟩ := ob H
        refine awr_ng rfl rfl rfl rfl (ca rfl rfl rfl (iInRange_c hr3) trivial rfl rfl rfl rfl) ?_
        refine wk ?_
        refine g2 rfl rfl rfl (fun h => ?_) (fun h => ?_)
        · have H := bt h H
          refine wk ?_
          obtain ⟨r4, hr4, H⟩ := ob H
          refine awr_ng rfl rfl rfl rfl (ca rfl rfl rfl (iInRange_c hr4) trivial rfl rfl rfl rfl) ?_
          refine wk ?_
          cases H
          exact weak_of ⟨rfl, rfl, trivial⟩ trivial
        · have H := bf h H
          refine wk ?_
          cases H
          exact weak_of ⟨rfl, rfl, trivial⟩ trivial
      · have H := bf h H
        refine wk ?_
        cases H
        exact weak_of ⟨rfl, rfl, trivial⟩ trivial
    · have H := bf h H
      refine wk ?_
      cases H
      exact weak_of ⟨rfl, rfl, trivial⟩ trivial
  refine wk ?_
  cases H
  exact fin_ret (.cons (.tmp rfl) .nil) rfl rfl rfl
def isameRecord (a0 : TUsageRecord) (a1 : TUsageRecord) : Option Bool :=
  Option.bind (bif eqB a0.Network a1.Network then (bif eqB a0.SessionID a1.SessionID then (some (eqB a0.Seq a1.Seq)) else (some false)) else (some false)) fun (v1 : Bool) => some v1
theorem isameRecord_c {a0 : TUsageRecord} {a1 : TUsageRecord} {r : Bool} (H : isameRecord a0 a1 = some r) : Fn Try.prog 179 [.agg (eTUsageRecord a0), .agg (eTUsageRecord a1)] [.c (.d (.b r))] := by
  refine fn_in Try.func179 rfl (by kernel_rfl) Try.ntmps179 rfl rfl rfl ?_
  refine wk ?_
  obtain ⟨v1, Hj, H⟩ := ob H
  refine awr_join ⟨[(4, tB v1)], [], 0⟩ ?_ ?_
  · have H := Hj
    refine wk ?_
    refine g2 rfl rfl rfl (fun h => ?_) (fun h => ?_)
    · have H := bt h H
      refine wk ?_
      refine g2 rfl rfl rfl (fun h => ?_) (fun h => ?_)
      · have H := bt h H
        refine wk ?_
        cases H
        exact weak_of ⟨rfl, rfl, trivial⟩ trivial
      · have H := bf h H
        refine wk ?_
        cases H
        exact weak_of ⟨rfl, rfl, trivial⟩ trivial
    · have H := bf h H
      refine wk ?_
      cases H
      exact weak_of ⟨rfl, rfl, trivial⟩ trivial
  refine wk ?_
  cases H
  exact fin_ret (.cons (.tmp rfl) .nil) rfl rfl rfl
def iFindRecord_L1 (a0 : List TUsageRecord) (a1 : TUsageRecord) : Int → Option (Step (Int) (Int))
  | v1 => bif ltB v1 ((a0.length : Nat) : Int) then (Option.bind (ix a0 v1) fun x2 => Option.bind (isameRecord x2 a1) fun r3 => bif r3 then (dn (some v1)) else (some (.next (WR (v1 + 1))))) else (dn (some (-1)))
def iFindRecord (a0 : List TUsageRecord) (a1 : TUsageRecord) : Option Int :=
  iter (iFindRecord_L1 a0 a1) FU 0
theorem iFindRecord_c {a0 : List TUsageRecord} {a1 : TUsageRecord} {r : Int} (H : iFindRecord a0 a1 = some r) : Fn Try.prog 171 [aL (a0.map eTUsageRecord), .agg (eTUsageRecord a1)] [.c (.d (.i .i64 r))] := by
  refine fn_in Try.func171 rfl (by kernel_rfl) Try.ntmps171 rfl rfl rfl ?_
  refine wk ?_
  refine awc_iter (fun (q : Int) => ⟨[(3, .v (.c (.p 0 0))), (7, .v (.c (.d false (.l (a0.map eTUsageRecord))))), (8, tI ((a0.length : Nat) : Int)), (9, tI q)], [(0, .var 183 [.d false (.i .i64 a1.Network), .d false (.i .i64 a1.SessionID), .d false (.i .i64 a1.Seq), .d false (.i .i64 a1.Bytes)])], 1⟩) H (weak_of ⟨rfl, rfl, rfl, rfl, rfl, rfl, rfl, rfl, trivial⟩ ⟨rfl, ⟨rfl, rfl⟩, trivial⟩) ?_
  rintro v1 o H
  try dsimp only
  refine wk ?_
  refine awc_cond rfl (fun h => ?_) (fun h => ?_)
  · have H := bt h H
    refine wk ?_
    obtain ⟨x2, hx2, H⟩ := ob H
    refine awr_n rfl (xdT (enc := eTUsageRecord) hx2 (fun _ => rfl) rfl rfl rfl) ?_
    refine wk ?_
    obtain ⟨r3, hr3, H⟩ := ob H
    refine awr_n rfl (ca rfl rfl rfl (isameRecord_c hr3) trivial rfl rfl rfl rfl) ?_
    refine wk ?_
    refine awc_cond rfl (fun h => ?_) (fun h => ?_)
    · have H := bt h H
      refine wk ?_
      obtain ⟨r0, Hd, rfl⟩ := dnE H
      refine iq_r (fun hq => ?_)
      have H := Hd.trans (congrArg some hq)
      refine wk ?_
      cases H
      exact fin_ret (.cons (.tmp rfl) .nil) rfl rfl rfl
    · have H := bf h H
      refine wk ?_
      cases H
      refine iq_n ?_
      exact weak_of ⟨rfl, rfl, rfl, rfl, rfl, rfl, rfl, rfl, trivial⟩ ⟨rfl, ⟨rfl, rfl⟩, trivial⟩
  · have H := bf h H
    refine wk ?_
    obtain ⟨r0, Hd, rfl⟩ := dnE H
    refine iq_e (fun hq => ?_)
    have H := Hd.trans (congrArg some hq)
    refine wk ?_
    cases H
    exact fin_ret (.cons (.tmp rfl) .nil) rfl rfl rfl
def iAreValidRecords_L1 (a0 : List TUsageRecord) : Int → Option (Step (Int) (Bool))
  | v1 => bif ltB v1 ((a0.length : Nat) : Int) then (Option.bind (ix a0 v1) fun x2 => Option.bind (iIsValidRecord x2) fun r3 => Option.bind (bif !r3 then (some true) else (Option.bind (iFindRecord a0 x2) fun r5 => some (!eqB r5 v1))) fun (v4 : Bool) => bif v4 then (dn (some false)) else (some (.next (WR (v1 + 1))))) else (dn (some true))
def iAreValidRecords (a0 : List TUsageRecord) : Option Bool :=
  bif ltB 24 ((a0.length : Nat) : Int) then (some false) else (iter (iAreValidRecords_L1 a0) FU 0)
theorem iAreValidRecords_c {a0 : List TUsageRecord} {r : Bool} (H : iAreValidRecords a0 = some r) : Fn Try.prog 155 [aL (a0.map eTUsageRecord)] [.c (.d (.b r))] := by
  refine fn_in Try.func155 rfl (by kernel_rfl) Try.ntmps155 rfl rfl rfl ?_
  refine wk ?_
  refine awc_cond rfl (fun h => ?_) (fun h => ?_)
  · have H := bt h H
    refine wk ?_
    cases H
    exact fin_ret (.cons (.tmp rfl) .nil) rfl rfl rfl
  · have H := bf h H
    refine wk ?_
    refine awc_iter (fun (q : Int) => ⟨[(0, .v (.c (.d false (.l (a0.map eTUsageRecord))))), (8, .v (.c (.d false (.l (a0.map eTUsageRecord))))), (9, tI ((a0.length : Nat) : Int)), (10, tI q)], [], 0⟩) H (weak_of ⟨rfl, rfl, rfl, rfl, rfl, rfl, rfl, rfl, trivial⟩ trivial) ?_
    rintro v1 o H
    try dsimp only
    refine wk ?_
    refine awc_cond rfl (fun h => ?_) (fun h => ?_)
    · have H := bt h H
      refine wk ?_
      obtain ⟨x2, hx2, H⟩ := ob H
      refine awr_n rfl (xdT (enc := eTUsageRecord) hx2 (fun _ => rfl) rfl rfl rfl) ?_
      refine wk ?_
      obtain ⟨r3, hr3, H⟩ := ob H
      refine awr_n rfl (ca rfl rfl rfl (iIsValidRecord_c hr3) trivial rfl rfl rfl rfl) ?_
      refine wk ?_
      obtain ⟨v4, Hj, H⟩ := ob H
      refine awr_join ⟨[(0, .v (.c (.d false (.l (a0.map eTUsageRecord))))), (8, .v (.c (.d false (.l (a0.map eTUsageRecord))))), (9, tI ((a0.length : Nat) : Int)), (10, tI v1), (24, tB v4)], [], 0⟩ ?_ ?_
      · have H := Hj
        refine wk ?_
        refine g2 rfl rfl rfl (fun h => ?_) (fun h => ?_)
        · have H := bt h H
          refine wk ?_
          cases H
          exact weak_of ⟨rfl, rfl, rfl, rfl, rfl, rfl, rfl, rfl, rfl, rfl, trivial⟩ trivial
        · have H := bf h H
          refine wk ?_
          obtain ⟨r5, hr5, H⟩ := ob H
          refine awr_ng rfl rfl rfl rfl (ca rfl rfl rfl (iFindRecord_c hr5) trivial rfl rfl rfl rfl) ?_
          refine wk ?_
          cases H
          exact weak_of ⟨rfl, rfl, rfl, rfl, rfl, rfl, rfl, rfl, rfl, rfl, trivial⟩ trivial
      refine wk ?_
      refine awc_cond rfl (fun h => ?_) (fun h => ?_)
      · have H := bt h H
        refine wk ?_
        obtain ⟨r0, Hd, rfl⟩ := dnE H
        refine iq_r (fun hq => ?_)
        have H := Hd.trans (congrArg some hq)
        refine wk ?_
        cases H
        exact fin_ret (.cons (.tmp rfl) .nil) rfl rfl rfl
      · have H := bf h H
        refine wk ?_
        cases H
        refine iq_n ?_
        exact weak_of ⟨rfl, rfl, rfl, rfl, rfl, rfl, rfl, rfl, trivial⟩ trivial
    · have H := bf h H
      refine wk ?_
      obtain ⟨r0, Hd, rfl⟩ := dnE H
      refine iq_e (fun hq => ?_)
      have H := Hd.trans (congrArg some hq)
      refine wk ?_
      cases H
      exact fin_ret (.cons (.tmp rfl) .nil) rfl rfl rfl
def iIsValidBook_L1 (a0 : TOperatorBook) : Int → Option (Step (Int) (Bool))
  | v5 => bif ltB v5 ((a0.Claims.length : Nat) : Int) then (Option.bind (ix a0.Claims v5) fun x6 => bif !eqB x6.Network a0.Network then (dn (some false)) else (some (.next (WR (v5 + 1))))) else (dn (some true))
def iIsValidBook (a0 : TOperatorBook) : Option Bool :=
  Option.bind (iInRange a0.Network 0 3) fun r1 => Option.bind (bif !r1 then (some true) else (Option.bind (iAreValidRecords a0.Own) fun r3 => bif !r3 then (some true) else (Option.bind (iAreValidRecords a0.Claims) fun r4 => some (!r4)))) fun (v2 : Bool) => bif v2 then (some false) else (iter (iIsValidBook_L1 a0) FU 0)
theorem iIsValidBook_c {a0 : TOperatorBook} {r : Bool} (H : iIsValidBook a0 = some r) : Fn Try.prog 116 [.agg (eTOperatorBook a0)] [.c (.d (.b r))] := by
  refine fn_in Try.func116 rfl (by kernel_rfl) Try.ntmps116 rfl rfl rfl ?_
  refine wk ?_
  obtain ⟨r1, hr1, H⟩ := ob H
  refine awr_n rfl (ca rfl rfl rfl (iInRange_c hr1) trivial rfl rfl rfl rfl) ?_
  refine wk ?_
  obtain ⟨v2, Hj, H⟩ := ob H
  refine awr_join ⟨[(1, .v (.c (.p 0 0))), (20, tB v2)], [(0, .var 150 [.d false (.i .i64 a0.Network), .d false (.l (a0.Own.map eTUsageRecord)), .d false (.l (a0.Claims.map eTUsageRecord))])], 1⟩ ?_ ?_
  · have H := Hj
    refine wk ?_
    refine g2 rfl rfl rfl (fun h => ?_) (fun h => ?_)
    · have H := bt h H
      refine wk ?_
      cases H
      exact weak_of ⟨rfl, rfl, rfl, rfl, trivial⟩ ⟨rfl, ⟨rfl, rfl⟩, trivial⟩
    · have H := bf h H
      refine wk ?_
      obtain ⟨r3, hr3, H⟩ := ob H
      refine awr_ng rfl rfl rfl rfl (ca rfl rfl rfl (iAreValidRecords_c hr3) trivial rfl rfl rfl rfl) ?_
      refine wk ?_
      refine g2 rfl rfl rfl (fun h => ?_) (fun h => ?_)
      · have H := bt h H
        refine wk ?_
        cases H
        exact weak_of ⟨rfl, rfl, rfl, rfl, trivial⟩ ⟨rfl, ⟨rfl, rfl⟩, trivial⟩
      · have H := bf h H
        refine wk ?_
        obtain ⟨r4, hr4, H⟩ := ob H
        refine awr_ng rfl rfl rfl rfl (ca rfl rfl rfl (iAreValidRecords_c hr4) trivial rfl rfl rfl rfl) ?_
        refine wk ?_
        cases H
        exact weak_of ⟨rfl, rfl, rfl, rfl, trivial⟩ ⟨rfl, ⟨rfl, rfl⟩, trivial⟩
  refine wk ?_
  refine awc_cond rfl (fun h => ?_) (fun h => ?_)
  · have H := bt h H
    refine wk ?_
    cases H
    exact fin_ret (.cons (.tmp rfl) .nil) rfl rfl rfl
  · have H := bf h H
    refine wk ?_
    refine awc_iter (fun (q : Int) => ⟨[(1, .v (.c (.p 0 0))), (22, .v (.c (.d false (.l (a0.Claims.map eTUsageRecord))))), (23, tI ((a0.Claims.length : Nat) : Int)), (24, tI q)], [(0, .var 150 [.d false (.i .i64 a0.Network), .d false (.l (a0.Own.map eTUsageRecord)), .d false (.l (a0.Claims.map eTUsageRecord))])], 1⟩) H (weak_of ⟨rfl, rfl, rfl, rfl, rfl, rfl, rfl, rfl, trivial⟩ ⟨rfl, ⟨rfl, rfl⟩, trivial⟩) ?_
    rintro v5 o H
    try dsimp only
    refine wk ?_
    refine awc_cond rfl (fun h => ?_) (fun h => ?_)
    · have H := bt h H
      refine wk ?_
      obtain ⟨x6, hx6, H⟩ := ob H
      refine awr_n rfl (xdT (enc := eTUsageRecord) hx6 (fun _ => rfl) rfl rfl rfl) ?_
      refine wk ?_
      refine awc_cond rfl (fun h => ?_) (fun h => ?_)
      · have H := bt h H
        refine wk ?_
        obtain ⟨r0, Hd, rfl⟩ := dnE H
        refine iq_r (fun hq => ?_)
        have H := Hd.trans (congrArg some hq)
        refine wk ?_
        cases H
        exact fin_ret (.cons (.tmp rfl) .nil) rfl rfl rfl
      · have H := bf h H
        refine wk ?_
        cases H
        refine iq_n ?_
        exact weak_of ⟨rfl, rfl, rfl, rfl, rfl, rfl, rfl, rfl, trivial⟩ ⟨rfl, ⟨rfl, rfl⟩, trivial⟩
    · have H := bf h H
      refine wk ?_
      obtain ⟨r0, Hd, rfl⟩ := dnE H
      refine iq_e (fun hq => ?_)
      have H := Hd.trans (congrArg some hq)
      refine wk ?_
      cases H
      exact fin_ret (.cons (.tmp rfl) .nil) rfl rfl rfl
def iIsValidAgreement (a0 : TRoamingAgreement) : Option Bool :=
  Option.bind (iInRange a0.Home 0 3) fun r1 => Option.bind (bif r1 then (Option.bind (iInRange a0.Visited 0 3) fun r3 => bif r3 then (bif !eqB a0.Home a0.Visited then (Option.bind (iInRange a0.Price 0 1000) fun r4 => bif r4 then (Option.bind (iInRange a0.Cap 0 1000000000000) fun r5 => some r5) else (some false)) else (some false)) else (some false)) else (some false)) fun (v2 : Bool) => some v2
theorem iIsValidAgreement_c {a0 : TRoamingAgreement} {r : Bool} (H : iIsValidAgreement a0 = some r) : Fn Try.prog 89 [.agg (eTRoamingAgreement a0)] [.c (.d (.b r))] := by
  refine fn_in Try.func89 rfl (by kernel_rfl) Try.ntmps89 rfl rfl rfl ?_
  refine wk ?_
  obtain ⟨r1, hr1, H⟩ := ob H
  refine awr_n rfl (ca rfl rfl rfl (iInRange_c hr1) trivial rfl rfl rfl rfl) ?_
  refine wk ?_
  obtain ⟨v2, Hj, H⟩ := ob H
  refine awr_join ⟨[(2, tB v2)], [], 0⟩ ?_ ?_
  · have H := Hj
    refine wk ?_
    refine g2 rfl rfl rfl (fun h => ?_) (fun h => ?_)
    · have H := bt h H
      refine wk ?_
      obtain ⟨r3, hr3, H⟩ := ob H
      refine awr_ng rfl rfl rfl rfl (ca rfl rfl rfl (iInRange_c hr3) trivial rfl rfl rfl rfl) ?_
      refine wk ?_
      refine g2 rfl rfl rfl (fun h => ?_) (fun h => ?_)
      · have H := bt h H
        refine wk ?_
        refine g2 rfl rfl rfl (fun h => ?_) (fun h => ?_)
        · have H := bt h H
          refine wk ?_
          obtain ⟨r4, hr4, H⟩ := ob H
          refine awr_ng rfl rfl rfl rfl (ca rfl rfl rfl (iInRange_c hr4) trivial rfl rfl rfl rfl) ?_
          refine wk ?_
          refine g2 rfl rfl rfl (fun h => ?_) (fun h => ?_)
          · have H := bt h H
            refine wk ?_
            obtain ⟨r5, hr5, H⟩ := ob H
            refine awr_ng rfl rfl rfl rfl (ca rfl rfl rfl (iInRange_c hr5) trivial rfl rfl rfl rfl) ?_
            refine wk ?_
            cases H
            exact weak_of ⟨rfl, rfl, trivial⟩ trivial
          · have H := bf h H
            refine wk ?_
            cases H
            exact weak_of ⟨rfl, rfl, trivial⟩ trivial
        · have H := bf h H
          refine wk ?_
          cases H
          exact weak_of ⟨rfl, rfl, trivial⟩ trivial
      · have H := bf h H
        refine wk ?_
        cases H
        exact weak_of ⟨rfl, rfl, trivial⟩ trivial
    · have H := bf h H
      refine wk ?_
      cases H
      exact weak_of ⟨rfl, rfl, trivial⟩ trivial
  refine wk ?_
  cases H
  exact fin_ret (.cons (.tmp rfl) .nil) rfl rfl rfl
def iAgreedBytes_L1 (a0 : List TUsageRecord) (a1 : List TUsageRecord) (a2 : Int) : (Int × Int) → Option (Step (Int × Int) (Int))
  | (v1, v2) => bif ltB v2 ((a1.length : Nat) : Int) then (Option.bind (ix a1 v2) fun x11 => Option.bind (bif !eqB x11.Network a2 then (some true) else (Option.bind (iFindRecord a1 x11) fun r13 => some (!eqB r13 v2))) fun (v12 : Bool) => bif v12 then (some (.next (v1, WR (v2 + 1)))) else (Option.bind (iFindRecord a0 x11) fun r14 => Option.bind (bif leB 0 r14 then (Option.bind (ix a0 r14) fun x16 => Option.bind (iMin x11.Bytes x16.Bytes) fun r17 => some (WR (v1 + r17))) else (some v1)) fun (v15 : Int) => some (.next (v15, WR (v2 + 1))))) else (some (.done v1))
def iAgreedBytes (a0 : List TUsageRecord) (a1 : List TUsageRecord) (a2 : Int) : Option Int :=
  Option.bind (iter (iAgreedBytes_L1 a0 a1 a2) FU (0, 0)) fun (v10 : Int) => some v10
theorem iAgreedBytes_c {a0 : List TUsageRecord} {a1 : List TUsageRecord} {a2 : Int} {r : Int} (H : iAgreedBytes a0 a1 a2 = some r) : Fn Try.prog 156 [aL (a0.map eTUsageRecord), aL (a1.map eTUsageRecord), aI a2] [.c (.d (.i .i64 r))] := by
  refine fn_in Try.func156 rfl (by kernel_rfl) Try.ntmps156 rfl rfl rfl ?_
  refine wkd ?_
  obtain ⟨v10, Hj, H⟩ := ob H
  refine awc_jblk ⟨[(7, tI v10)], [], 0⟩ ?_ ?_
  · refine wkd ?_
    refine awc_iter (fun (q : Int × Int) => ⟨[(0, .v (.c (.d false (.l (a0.map eTUsageRecord))))), (1, .v (.c (.d false (.l (a1.map eTUsageRecord))))), (2, tI a2), (7, tI q.1), (11, .v (.c (.d false (.l (a1.map eTUsageRecord))))), (12, tI ((a1.length : Nat) : Int)), (13, tI q.2)], [], 0⟩) Hj (weak_of ⟨rfl, rfl, rfl, rfl, rfl, rfl, rfl, rfl, rfl, rfl, rfl, rfl, rfl, rfl, trivial⟩ trivial) ?_
    rintro ⟨v1, v2⟩ o H
    try dsimp only
    refine wkd ?_
    refine awc_cond rfl (fun h => ?_) (fun h => ?_)
    · have H := bt h H
      refine wkd ?_
      obtain ⟨x11, hx11, H⟩ := ob H
      refine awr_n rfl (xdT (enc := eTUsageRecord) hx11 (fun _ => rfl) rfl rfl rfl) ?_
      refine wkd ?_
      obtain ⟨v12, Hj, H⟩ := ob H
      refine awr_join ⟨[(0, .v (.c (.d false (.l (a0.map eTUsageRecord))))), (1, .v (.c (.d false (.l (a1.map eTUsageRecord))))), (2, tI a2), (7, tI v1), (9, .v (.c (.p 0 0))), (11, .v (.c (.d false (.l (a1.map eTUsageRecord))))), (12, tI ((a1.length : Nat) : Int)), (13, tI v2), (28, tB v12)], [(0, .var 183 [.d false (.i .i64 x11.Network), .d false (.i .i64 x11.SessionID), .d false (.i .i64 x11.Seq), .d false (.i .i64 x11.Bytes)])], 1⟩ ?_ ?_
      · have H := Hj
        refine wkd ?_
        refine g2 rfl rfl rfl (fun h => ?_) (fun h => ?_)
        · have H := bt h H
          refine wkd ?_
          cases H
          exact weak_of ⟨rfl, rfl, rfl, rfl, rfl, rfl, rfl, rfl, rfl, rfl, rfl, rfl, rfl, rfl, rfl, rfl, rfl, rfl, trivial⟩ ⟨rfl, ⟨rfl, rfl⟩, trivial⟩
        · have H := bf h H
          refine wkd ?_
          obtain ⟨r13, hr13, H⟩ := ob H
          refine awr_ng rfl rfl rfl rfl (ca rfl rfl rfl (iFindRecord_c hr13) trivial rfl rfl rfl rfl) ?_
          refine wkd ?_
          cases H
          exact weak_of ⟨rfl, rfl, rfl, rfl, rfl, rfl, rfl, rfl, rfl, rfl, rfl, rfl, rfl, rfl, rfl, rfl, rfl, rfl, trivial⟩ ⟨rfl, ⟨rfl, rfl⟩, trivial⟩
      refine wkd ?_
      refine awc_cond rfl (fun h => ?_) (fun h => ?_)
      · have H := bt h H
        refine wkd ?_
        cases H
        refine iq_n ?_
        exact weak_of ⟨rfl, rfl, rfl, rfl, rfl, rfl, rfl, rfl, rfl, rfl, rfl, rfl, rfl, rfl, trivial⟩ trivial
      · have H := bf h H
        refine wkd ?_
        obtain ⟨r14, hr14, H⟩ := ob H
        refine awr_n rfl (ca rfl rfl rfl (iFindRecord_c hr14) trivial rfl rfl rfl rfl) ?_
        refine wkd ?_
        obtain ⟨v15, Hj, H⟩ := ob H
        refine awc_join ⟨[(0, .v (.c (.d false (.l (a0.map eTUsageRecord))))), (1, .v (.c (.d false (.l (a1.map eTUsageRecord))))), (2, tI a2), (7, tI v15), (11, .v (.c (.d false (.l (a1.map eTUsageRecord))))), (12, tI ((a1.length : Nat) : Int)), (13, tI v2)], [], 0⟩ ?_ ?_
        · have H := Hj
          refine wkd ?_
          refine awc_cond rfl (fun h => ?_) (fun h => ?_)
          · have H := bt h H
            refine wkd ?_
            obtain ⟨x16, hx16, H⟩ := ob H
            refine dr_n rfl (xdT (enc := eTUsageRecord) hx16 (fun _ => rfl) rfl rfl rfl) ?_
            refine wkd ?_
            obtain ⟨r17, hr17, H⟩ := ob H
            refine dr_n rfl (ca rfl rfl rfl (iMin_c hr17) trivial rfl rfl rfl rfl) ?_
            refine wkd ?_
            cases H
            exact weak_of ⟨rfl, rfl, rfl, rfl, rfl, rfl, rfl, rfl, rfl, rfl, rfl, rfl, rfl, rfl, trivial⟩ trivial
          · have H := bf h H
            refine wkd ?_
            cases H
            exact weak_of ⟨rfl, rfl, rfl, rfl, rfl, rfl, rfl, rfl, rfl, rfl, rfl, rfl, rfl, rfl, trivial⟩ trivial
        refine wkd ?_
        cases H
        refine iq_n ?_
        exact weak_of ⟨rfl, rfl, rfl, rfl, rfl, rfl, rfl, rfl, rfl, rfl, rfl, rfl, rfl, rfl, trivial⟩ trivial
    · have H := bf h H
      refine wkd ?_
      cases H
      refine iq_e (fun hq => ?_)
      cases hq
      refine wkd ?_
      exact weak_of ⟨rfl, rfl, trivial⟩ trivial
  refine wkd ?_
  cases H
  exact fin_ret (.cons (.tmp rfl) .nil) rfl rfl rfl
def iAmountOwed (a0 : TRoamingAgreement) (a1 : List TUsageRecord) (a2 : List TUsageRecord) : Option Int :=
  Option.bind (iIsValidAgreement a0) fun r1 => Option.bind (bif !r1 then (some true) else (Option.bind (iAreValidRecords a1) fun r3 => bif !r3 then (some true) else (Option.bind (iAreValidRecords a2) fun r4 => some (!r4)))) fun (v2 : Bool) => bif v2 then (some 0) else (Option.bind (iAgreedBytes a1 a2 a0.Visited) fun r5 => Option.bind (iMin a0.Cap (WR (a0.Price * r5))) fun r6 => some r6)
theorem iAmountOwed_c {a0 : TRoamingAgreement} {a1 : List TUsageRecord} {a2 : List TUsageRecord} {r : Int} (H : iAmountOwed a0 a1 a2 = some r) : Fn Try.prog 117 [.agg (eTRoamingAgreement a0), aL (a1.map eTUsageRecord), aL (a2.map eTUsageRecord)] [.c (.d (.i .i64 r))] := by
  refine fn_in Try.func117 rfl (by kernel_rfl) Try.ntmps117 rfl rfl rfl ?_
  refine wkd ?_
  obtain ⟨r1, hr1, H⟩ := ob H
  refine awr_n rfl (ca rfl rfl rfl (iIsValidAgreement_c hr1) trivial rfl rfl rfl rfl) ?_
  refine wkd ?_
  obtain ⟨v2, Hj, H⟩ := ob H
  refine awr_join ⟨[(1, .v (.c (.d false (.l (a1.map eTUsageRecord))))), (2, .v (.c (.d false (.l (a2.map eTUsageRecord))))), (3, .v (.c (.p 0 0))), (19, tB v2)], [(0, .var 62 [.d false (.i .i64 a0.Home), .d false (.i .i64 a0.Visited), .d false (.i .i64 a0.Price), .d false (.i .i64 a0.Cap)])], 1⟩ ?_ ?_
  · have H := Hj
    refine wkd ?_
    refine g2 rfl rfl rfl (fun h => ?_) (fun h => ?_)
    · have H := bt h H
      refine wkd ?_
      cases H
      exact weak_of ⟨rfl, rfl, rfl, rfl, rfl, rfl, rfl, rfl, trivial⟩ ⟨rfl, ⟨rfl, rfl⟩, trivial⟩
    · have H := bf h H
      refine wkd ?_
      obtain ⟨r3, hr3, H⟩ := ob H
      refine awr_ng rfl rfl rfl rfl (ca rfl rfl rfl (iAreValidRecords_c hr3) trivial rfl rfl rfl rfl) ?_
      refine wkd ?_
      refine g2 rfl rfl rfl (fun h => ?_) (fun h => ?_)
      · have H := bt h H
        refine wkd ?_
        cases H
        exact weak_of ⟨rfl, rfl, rfl, rfl, rfl, rfl, rfl, rfl, trivial⟩ ⟨rfl, ⟨rfl, rfl⟩, trivial⟩
      · have H := bf h H
        refine wkd ?_
        obtain ⟨r4, hr4, H⟩ := ob H
        refine awr_ng rfl rfl rfl rfl (ca rfl rfl rfl (iAreValidRecords_c hr4) trivial rfl rfl rfl rfl) ?_
        refine wkd ?_
        cases H
        exact weak_of ⟨rfl, rfl, rfl, rfl, rfl, rfl, rfl, rfl, trivial⟩ ⟨rfl, ⟨rfl, rfl⟩, trivial⟩
  refine wkd ?_
  refine awc_cond rfl (fun h => ?_) (fun h => ?_)
  · have H := bt h H
    refine wkd ?_
    cases H
    exact fin_ret (.cons (.tmp rfl) .nil) rfl rfl rfl
  · have H := bf h H
    refine wkd ?_
    obtain ⟨r5, hr5, H⟩ := ob H
    refine dr_n rfl (ca rfl rfl rfl (iAgreedBytes_c hr5) trivial rfl rfl rfl rfl) ?_
    refine wkd ?_
    obtain ⟨r6, hr6, H⟩ := ob H
    refine dr_n rfl (ca rfl rfl rfl (iMin_c hr6) trivial rfl rfl rfl rfl) ?_
    refine wkd ?_
    cases H
    exact fin_ret (.cons (.tmp rfl) .nil) rfl rfl rfl
def iSettlement_L1 (a0 : List TOperatorBook) (a1 : List TRoamingAgreement) : (Int × List TStatementLine) → Option (Step (Int × List TStatementLine) (List TStatementLine))
  | (v1, v2) => bif ltB v1 ((a1.length : Nat) : Int) then (Option.bind (ix a1 v1) fun x16 => bif leB 12 ((v2.length : Nat) : Int) then (some (.done v2)) else (Option.bind (iFindBook a0 x16.Home) fun r17 => Option.bind (iFindBook a0 x16.Visited) fun r18 => Option.bind (bif ltB r17 0 then (some true) else (bif ltB r18 0 then (some true) else (Option.bind (ix a0 r17) fun x20 => Option.bind (iIsValidBook x20) fun r21 => bif !r21 then (some true) else (Option.bind (ix a0 r18) fun x22 => Option.bind (iIsValidBook x22) fun r23 => some (!r23))))) fun (v19 : Bool) => bif v19 then (some (.next (WR (v1 + 1), v2))) else (Option.bind (ix a0 r17) fun x24 => Option.bind (ix a0 r18) fun x25 => Option.bind (iAmountOwed x16 x24.Own x25.Claims) fun r26 => Option.bind (bif ltB 0 r26 then (bif apOk 24 (v2 ++ [(⟨x16.Home, x16.Visited, r26⟩ : TStatementLine)]).length then (some (v2 ++ [(⟨x16.Home, x16.Visited, r26⟩ : TStatementLine)])) else none) else (some v2)) fun (v27 : List TStatementLine) => some (.next (WR (v1 + 1), v27))))) else (some (.done v2))
def iSettlement (a0 : List TOperatorBook) (a1 : List TRoamingAgreement) : Option (List TStatementLine) :=
  Option.bind (iter (iSettlement_L1 a0 a1) FU (0, ([] : List TStatementLine))) fun (v15 : List TStatementLine) => some v15
theorem iSettlement_c {a0 : List TOperatorBook} {a1 : List TRoamingAgreement} {r : List TStatementLine} (H : iSettlement a0 a1 = some r) : Fn Try.prog 58 [aL (a0.map eTOperatorBook), aL (a1.map eTRoamingAgreement)] [.c (.own 30 3 (r.map eTStatementLine) r.length)] := by
  refine fn_in Try.func58 rfl (by kernel_rfl) Try.ntmps58 rfl rfl rfl ?_
  refine wkd ?_
  obtain ⟨v15, Hj, H⟩ := ob H
  refine awc_jblk ⟨[(5, .v (.c (.w 0 v15.length)))], [(0, .row 30 3 (v15.map eTStatementLine) true true)], 1⟩ ?_ ?_
  · refine wkd ?_
    refine awc_iter (fun (q : Int × List TStatementLine) => ⟨[(0, .v (.c (.d false (.l (a0.map eTOperatorBook))))), (5, .v (.c (.w 0 q.2.length))), (12, .v (.c (.d false (.l (a1.map eTRoamingAgreement))))), (13, tI ((a1.length : Nat) : Int)), (14, tI q.1)], [(0, .row 30 3 (q.2.map eTStatementLine) true true)], 1⟩) Hj (weak_of ⟨rfl, rfl, wn rfl (by first | rfl | simp), rfl, rfl, rfl, rfl, rfl, rfl, rfl, trivial⟩ ⟨rfl, ⟨rfl, rfl⟩, trivial⟩) ?_
    rintro ⟨v1, v2⟩ o H
    try dsimp only
    refine wkd ?_
    refine awc_cond rfl (fun h => ?_) (fun h => ?_)
    · have H := bt h H
      refine wkd ?_
      obtain ⟨x16, hx16, H⟩ := ob H
      refine awr_n rfl (xdT (enc := eTRoamingAgreement) hx16 (fun _ => rfl) rfl rfl rfl) ?_
      refine wkd ?_
      refine awc_cond rfl (fun h => ?_) (fun h => ?_)
      · have H := bt h H
        refine wkd ?_
        cases H
        refine iq_e (fun hq => ?_)
        cases hq
        refine wkd ?_
        exact weak_of ⟨wn rfl (by first | rfl | simp), rfl, trivial⟩ ⟨rfl, ⟨rfl, rfl⟩, trivial⟩
      · have H := bf h H
        refine wkd ?_
        obtain ⟨r17, hr17, H⟩ := ob H
        refine awr_n rfl (ca rfl rfl rfl (iFindBook_c hr17) trivial rfl rfl rfl rfl) ?_
        refine wkd ?_
        obtain ⟨r18, hr18, H⟩ := ob H
        refine awr_n rfl (ca rfl rfl rfl (iFindBook_c hr18) trivial rfl rfl rfl rfl) ?_
        refine wkd ?_
        obtain ⟨v19, Hj, H⟩ := ob H
        refine awr_join ⟨[(0, .v (.c (.d false (.l (a0.map eTOperatorBook))))), (5, .v (.c (.w 0 v2.length))), (7, .v (.c (.p 1 0))), (8, tI r17), (9, tI r18), (12, .v (.c (.d false (.l (a1.map eTRoamingAgreement))))), (13, tI ((a1.length : Nat) : Int)), (14, tI v1), (50, tB v19)], [(0, .row 30 3 (v2.map eTStatementLine) true true), (1, .var 62 [.d false (.i .i64 x16.Home), .d false (.i .i64 x16.Visited), .d false (.i .i64 x16.Price), .d false (.i .i64 x16.Cap)])], 2⟩ ?_ ?_
        · have H := Hj
          refine wkd ?_
          refine g2 rfl rfl rfl (fun h => ?_) (fun h => ?_)
          · have H := bt h H
            refine wkd ?_
            cases H
            exact weak_of ⟨rfl, rfl, wn rfl (by first | rfl | simp), rfl, rfl, rfl, rfl, rfl, rfl, rfl, rfl, rfl, rfl, rfl, rfl, rfl, rfl, rfl, trivial⟩ ⟨rfl, ⟨rfl, rfl⟩, rfl, ⟨rfl, rfl⟩, trivial⟩
          · have H := bf h H
            refine wkd ?_
            refine g2 rfl rfl rfl (fun h => ?_) (fun h => ?_)
            · have H := bt h H
              refine wkd ?_
              cases H
              exact weak_of ⟨rfl, rfl, wn rfl (by first | rfl | simp), rfl, rfl, rfl, rfl, rfl, rfl, rfl, rfl, rfl, rfl, rfl, rfl, rfl, rfl, rfl, trivial⟩ ⟨rfl, ⟨rfl, rfl⟩, rfl, ⟨rfl, rfl⟩, trivial⟩
            · have H := bf h H
              refine wkd ?_
              obtain ⟨x20, hx20, H⟩ := ob H
              refine awr_ng rfl rfl rfl rfl (xdT (enc := eTOperatorBook) hx20 (fun _ => rfl) rfl rfl rfl) ?_
              refine wkd ?_
              obtain ⟨r21, hr21, H⟩ := ob H
              refine awr_ng rfl rfl rfl rfl (ca rfl rfl rfl (iIsValidBook_c hr21) trivial rfl rfl rfl rfl) ?_
              refine wkd ?_
              refine g2 rfl rfl rfl (fun h => ?_) (fun h => ?_)
              · have H := bt h H
                refine wkd ?_
                cases H
                exact weak_of ⟨rfl, rfl, wn rfl (by first | rfl | simp), rfl, rfl, rfl, rfl, rfl, rfl, rfl, rfl, rfl, rfl, rfl, rfl, rfl, rfl, rfl, trivial⟩ ⟨rfl, ⟨rfl, rfl⟩, rfl, ⟨rfl, rfl⟩, trivial⟩
              · have H := bf h H
                refine wkd ?_
                obtain ⟨x22, hx22, H⟩ := ob H
                refine awr_ng rfl rfl rfl rfl (xdT (enc := eTOperatorBook) hx22 (fun _ => rfl) rfl rfl rfl) ?_
                refine wkd ?_
                obtain ⟨r23, hr23, H⟩ := ob H
                refine awr_ng rfl rfl rfl rfl (ca rfl rfl rfl (iIsValidBook_c hr23) trivial rfl rfl rfl rfl) ?_
                refine wkd ?_
                cases H
                exact weak_of ⟨rfl, rfl, wn rfl (by first | rfl | simp), rfl, rfl, rfl, rfl, rfl, rfl, rfl, rfl, rfl, rfl, rfl, rfl, rfl, rfl, rfl, trivial⟩ ⟨rfl, ⟨rfl, rfl⟩, rfl, ⟨rfl, rfl⟩, trivial⟩
        refine wkd ?_
        refine awc_cond rfl (fun h => ?_) (fun h => ?_)
        · have H := bt h H
          refine wkd ?_
          cases H
          refine iq_n ?_
          exact weak_of ⟨rfl, rfl, wn rfl (by first | rfl | simp), rfl, rfl, rfl, rfl, rfl, rfl, rfl, trivial⟩ ⟨rfl, ⟨rfl, rfl⟩, trivial⟩
        · have H := bf h H
          refine wkd ?_
          obtain ⟨x24, hx24, H⟩ := ob H
          refine dr_n rfl (xdT (enc := eTOperatorBook) hx24 (fun _ => rfl) rfl rfl rfl) ?_
          refine wkd ?_
          obtain ⟨x25, hx25, H⟩ := ob H
          refine dr_n rfl (xdT (enc := eTOperatorBook) hx25 (fun _ => rfl) rfl rfl rfl) ?_
          refine wkd ?_
          obtain ⟨r26, hr26, H⟩ := ob H
          refine dr_n rfl (ca rfl rfl rfl (iAmountOwed_c hr26) trivial rfl rfl rfl rfl) ?_
          refine wkd ?_
          obtain ⟨v27, Hj, H⟩ := ob H
          refine awc_join ⟨[(0, .v (.c (.d false (.l (a0.map eTOperatorBook))))), (5, .v (.c (.w 0 v27.length))), (12, .v (.c (.d false (.l (a1.map eTRoamingAgreement))))), (13, tI ((a1.length : Nat) : Int)), (14, tI v1)], [(0, .row 30 3 (v27.map eTStatementLine) true true)], 1⟩ ?_ ?_
          · have H := Hj
            refine wkd ?_
            refine awc_cond rfl (fun h => ?_) (fun h => ?_)
            · have H := bt h H
              refine wkd ?_
              obtain ⟨h, H⟩ := rq H
              refine awr_step rfl (apT (enc := eTStatementLine) (ys := v2) (zs := [(⟨x16.Home, x16.Visited, r26⟩ : TStatementLine)]) h rfl (fun _ => rfl) (by first | rfl | simp) (.w rfl (by first | rfl | exact lm _ | simp)) rfl rfl rfl rfl rfl rfl rfl rfl) ?_
              refine wkd ?_
              cases H
              exact weak_of ⟨rfl, rfl, wn rfl (by first | rfl | simp), rfl, rfl, rfl, rfl, rfl, rfl, rfl, trivial⟩ ⟨rfl, ⟨rfl, rfl⟩, trivial⟩
            · have H := bf h H
              refine wkd ?_
              cases H
              exact weak_of ⟨rfl, rfl, wn rfl (by first | rfl | simp), rfl, rfl, rfl, rfl, rfl, rfl, rfl, trivial⟩ ⟨rfl, ⟨rfl, rfl⟩, trivial⟩
          refine wkd ?_
          cases H
          refine iq_n ?_
          exact weak_of ⟨rfl, rfl, wn rfl (by first | rfl | simp), rfl, rfl, rfl, rfl, rfl, rfl, rfl, trivial⟩ ⟨rfl, ⟨rfl, rfl⟩, trivial⟩
    · have H := bf h H
      refine wkd ?_
      cases H
      refine iq_e (fun hq => ?_)
      cases hq
      refine wkd ?_
      exact weak_of ⟨wn rfl (by first | rfl | simp), rfl, trivial⟩ ⟨rfl, ⟨rfl, rfl⟩, trivial⟩
  refine wkd ?_
  cases H
  exact fin_ret (.cons (.tmp rfl) .nil) rfl rfl (by first | rfl | simp)
end Go.AM
