/-
  Own text: a part of the abstract machine for this seat (Hal). No statement is proved here.
-/
import Derived.Test.YtnhgchfpccpcdaaHas
import Derived.Test.YtnhgchfpccpcdaaHam
set_option linter.unusedVariables false
namespace Go.AM
open Go.Proofs
attribute [local irreducible] AWN NS AWO AWR AWC DR Weak iterQ
set_option maxRecDepth 100000
set_option maxHeartbeats 4000000
def lFnExactFormatPayload (a0 : List Int) : Option Bool :=
  bif ltB 1048576 ((a0.length : Nat) : Int) then (some true) else (Option.bind (ltoByteS a0) fun r1 => Option.bind (sFormatPayload r1) fun r2 => Option.bind (ltoByteS a0) fun r3 => Option.bind (iFormatPayload r3) fun r4 => bif !strB r4 r2 then (some false) else (Option.bind (ltoByteS a0) fun r5 => Option.bind (leqByteS r3 r5) fun r6 => bif !r6 then (some false) else (some true)))
theorem lFnExactFormatPayload_c {a0 : List Int} {r : Bool} (H : lFnExactFormatPayload a0 = some r) : Fn Try.prog 3 [aL (a0.map eU8)] [.c (.d (.b r))] := by
  refine fn_in Try.func3 rfl (by kernel_rfl) Try.ntmps3 rfl rfl rfl ?_
  refine wk ?_
  refine awc_cond rfl (fun h => ?_) (fun h => ?_)
  · have H := bt h H
    refine wk ?_
    cases H
    exact fin_ret (.cons (.tmp rfl) .nil) rfl rfl rfl
  · have H := bf h H
    refine wk ?_
    obtain ⟨r1, hr1, H⟩ := ob H
    refine awr_step rfl (car rfl rfl rfl (ltoByteS_c hr1) trivial rfl ⟨by first | rfl | exact lm _, trivial⟩ rfl rfl) ?_
    refine wk ?_
    obtain ⟨r2, hr2, H⟩ := ob H
    refine awr_n rfl (ca rfl rfl rfl (sFormatPayload_c hr2) trivial rfl rfl rfl rfl) ?_
    refine wk ?_
    obtain ⟨r3, hr3, H⟩ := ob H
    refine awr_step rfl (car rfl rfl rfl (ltoByteS_c hr3) trivial rfl ⟨by first | rfl | exact lm _, trivial⟩ rfl rfl) ?_
    refine wk ?_
    obtain ⟨r4, hr4, H⟩ := ob H
    refine awr_n rfl (ca rfl rfl rfl (iFormatPayload_c hr4) trivial rfl rfl rfl rfl) ?_
    refine wk ?_
    refine awc_cond rfl (fun h => ?_) (fun h => ?_)
    · have H := bt h H
      refine wk ?_
      cases H
      exact fin_ret (.cons (.tmp rfl) .nil) rfl rfl rfl
    · have H := bf h H
      refine wk ?_
      obtain ⟨r5, hr5, H⟩ := ob H
      refine awr_step rfl (car rfl rfl rfl (ltoByteS_c hr5) trivial rfl ⟨by first | rfl | exact lm _, trivial⟩ rfl rfl) ?_
      refine wk ?_
      obtain ⟨r6, hr6, H⟩ := ob H
      refine awr_n rfl (ca rfl rfl rfl (leqByteS_c hr6) trivial rfl rfl rfl rfl) ?_
      refine wk ?_
      refine awc_cond rfl (fun h => ?_) (fun h => ?_)
      · have H := bt h H
        refine wk ?_
        cases H
        exact fin_ret (.cons (.tmp rfl) .nil) rfl rfl rfl
      · have H := bf h H
        refine wk ?_
        cases H
        exact fin_ret (.cons (.tmp rfl) .nil) rfl rfl rfl
def lFnClearingSum_L1 (r2 : List TStatementLine) : (Int × List TStatementLine) → Option (Step (Int × List TStatementLine) (List TStatementLine))
  | (v3, v4) => bif ltB v3 ((r2.length : Nat) : Int) then (Option.bind (ix r2 v3) fun x13 => Option.bind (bif leB 0 x13.Payer then (Option.bind (ix r2 v3) fun x15 => bif ltB x15.Payer 4 then (Option.bind (ix r2 v3) fun x16 => bif leB 0 x16.Payee then (Option.bind (ix r2 v3) fun x17 => some (ltB x17.Payee 4)) else (some false)) else (some false)) else (some false)) fun (v14 : Bool) => Option.bind (bif v14 then (Option.bind (ix r2 v3) fun x19 => bif apOk 24 (v4 ++ [x19]).length then (some (v4 ++ [x19])) else none) else (some v4)) fun (v18 : List TStatementLine) => some (.next (WR (v3 + 1), v18))) else (some (.done v4))
def lFnClearingSum_L3 (v12 : List TStatementLine) (r20 : List TStatementLine) (v21 : Int) : (Int × Int) → Option (Step (Int × Int) (Bool))
  | (v27, v28) => bif ltB v28 ((r20.length : Nat) : Int) then (Option.bind (ix r20 v28) fun x29 => Option.bind (bif ltB x29.Amount 1 then (some true) else (Option.bind (ix r20 v28) fun x31 => Option.bind (ix r20 v28) fun x32 => some (eqB x31.Payer x32.Payee))) fun (v30 : Bool) => bif v30 then (dn (some false)) else (Option.bind (ix r20 v28) fun x33 => some (.next (WR (v27 + x33.Amount), WR (v28 + 1))))) else (dn (Option.bind (bif eqB v21 0 then (Option.bind (iTotalTurnover r20) fun r35 => bif eqB r35 v27 then (Option.bind (iTotalTurnover v12) fun r36 => bif leB v27 r36 then (Option.bind (iTotalTurnover v12) fun r37 => Option.bind (sTotalTurnover v12) fun r38 => some (eqB r37 r38)) else (some false)) else (some false)) else (some false)) fun (v34 : Bool) => some v34))
def lFnClearingSum_L2 (v12 : List TStatementLine) (r20 : List TStatementLine) : (Int × Int) → Option (Step (Int × Int) (Bool))
  | (v21, v22) => bif ltB v22 4 then (Option.bind (iNetPosition v12 v22) fun r23 => Option.bind (sNetPosition v12 v22) fun r24 => Option.bind (bif !eqB r23 r24 then (some true) else (Option.bind (iNetPosition r20 v22) fun r26 => some (!eqB r23 r26))) fun (v25 : Bool) => bif v25 then (dn (some false)) else (some (.next (WR (v21 + r23), WR (v22 + 1))))) else (dn (iter (lFnClearingSum_L3 v12 r20 v21) FU (0, 0)))
def lFnClearingSum (a0 : List Int) : Option Bool :=
  Option.bind (lbig a0) fun r1 => bif r1 then (some true) else (Option.bind (sDrawNetPayments a0) fun r2 => Option.bind (iter (lFnClearingSum_L1 r2) FU (0, ([] : List TStatementLine))) fun (v12 : List TStatementLine) => Option.bind (iNetPayments v12) fun r20 => iter (lFnClearingSum_L2 v12 r20) FU (0, 0))
theorem lFnClearingSum_c {a0 : List Int} {r : Bool} (H : lFnClearingSum a0 = some r) : Fn Try.prog 4 [aL (a0.map eU8)] [.c (.d (.b r))] := by
  refine fn_in Try.func4 rfl (by kernel_rfl) Try.ntmps4 rfl rfl rfl ?_
  refine wkd ?_
  obtain ⟨r1, hr1, H⟩ := ob H
  refine awr_n rfl (ca rfl rfl rfl (lbig_c hr1) trivial rfl rfl rfl rfl) ?_
  refine wkd ?_
  refine awc_cond rfl (fun h => ?_) (fun h => ?_)
  · have H := bt h H
    refine wkd ?_
    cases H
    exact fin_ret (.cons (.tmp rfl) .nil) rfl rfl rfl
  · have H := bf h H
    refine wkd ?_
    obtain ⟨r2, hr2, H⟩ := ob H
    refine awr_n rfl (ca rfl rfl rfl (sDrawNetPayments_c hr2) trivial rfl rfl rfl rfl) ?_
    refine wkd ?_
    obtain ⟨v12, Hj, H⟩ := ob H
    refine awc_jblk ⟨[(4, .v (.c (.w 1 v12.length)))], [(1, .row 30 3 (v12.map eTStatementLine) true true)], 2⟩ ?_ ?_
    · refine wkd ?_
      refine awc_iter (fun (q : Int × List TStatementLine) => ⟨[(3, .v (.c (.w 0 r2.length))), (4, .v (.c (.w 1 q.2.length))), (5, tI q.1)], [(0, .row 30 3 (r2.map eTStatementLine) true true), (1, .row 30 3 (q.2.map eTStatementLine) true true)], 2⟩) Hj (weak_of ⟨wn rfl (by first | rfl | simp), rfl, wn rfl (by first | rfl | simp), rfl, rfl, rfl, trivial⟩ ⟨rfl, ⟨rfl, rfl⟩, rfl, ⟨rfl, rfl⟩, trivial⟩) ?_
      rintro ⟨v3, v4⟩ o H
      try dsimp only
      refine wkd ?_
      refine awc_cond rfl (fun h => ?_) (fun h => ?_)
      · have H := bt h H
        refine wkd ?_
        obtain ⟨x13, hx13, H⟩ := ob H
        refine awr_n rfl (xwT hx13 (by first | rfl | simp) rfl rfl rfl) ?_
        refine wkd ?_
        refine awr_n rfl (oe rfl rfl rfl (ix_map eTStatementLine hx13) rfl) ?_
        refine wkd ?_
        obtain ⟨v14, Hj, H⟩ := ob H
        refine awr_join ⟨[(3, .v (.c (.w 0 r2.length))), (4, .v (.c (.w 1 v4.length))), (5, tI v3), (52, tB v14)], [(0, .row 30 3 (r2.map eTStatementLine) true true), (1, .row 30 3 (v4.map eTStatementLine) true true)], 2⟩ ?_ ?_
        · have H := Hj
          refine wkd ?_
          refine g2 rfl rfl rfl (fun h => ?_) (fun h => ?_)
          · have H := bt h H
            refine wkd ?_
            obtain ⟨x15, hx15, H⟩ := ob H
            refine awr_ng rfl rfl rfl rfl (xwT hx15 (by first | rfl | simp) rfl rfl rfl) ?_
            refine wkd ?_
            refine awr_ng rfl rfl rfl rfl (oe rfl rfl rfl (ix_map eTStatementLine hx15) rfl) ?_
            refine wkd ?_
            refine g2 rfl rfl rfl (fun h => ?_) (fun h => ?_)
            · have H := bt h H
              refine wkd ?_
              obtain ⟨x16, hx16, H⟩ := ob H
              refine awr_ng rfl rfl rfl rfl (xwT hx16 (by first | rfl | simp) rfl rfl rfl) ?_
              refine wkd ?_
              refine awr_ng rfl rfl rfl rfl (oe rfl rfl rfl (ix_map eTStatementLine hx16) rfl) ?_
              refine wkd ?_
              refine g2 rfl rfl rfl (fun h => ?_) (fun h => ?_)
              · have H := bt h H
                refine wkd ?_
                obtain ⟨x17, hx17, H⟩ := ob H
                refine awr_ng rfl rfl rfl rfl (xwT hx17 (by first | rfl | simp) rfl rfl rfl) ?_
                refine wkd ?_
                refine awr_ng rfl rfl rfl rfl (oe rfl rfl rfl (ix_map eTStatementLine hx17) rfl) ?_
                refine wkd ?_
                cases H
                exact weak_of ⟨wn rfl (by first | rfl | simp), rfl, wn rfl (by first | rfl | simp), rfl, rfl, rfl, rfl, rfl, trivial⟩ ⟨rfl, ⟨rfl, rfl⟩, rfl, ⟨rfl, rfl⟩, trivial⟩
              · have H := bf h H
                refine wkd ?_
                cases H
                exact weak_of ⟨wn rfl (by first | rfl | simp), rfl, wn rfl (by first | rfl | simp), rfl, rfl, rfl, rfl, rfl, trivial⟩ ⟨rfl, ⟨rfl, rfl⟩, rfl, ⟨rfl, rfl⟩, trivial⟩
            · have H := bf h H
              refine wkd ?_
              cases H
              exact weak_of ⟨wn rfl (by first | rfl | simp), rfl, wn rfl (by first | rfl | simp), rfl, rfl, rfl, rfl, rfl, trivial⟩ ⟨rfl, ⟨rfl, rfl⟩, rfl, ⟨rfl, rfl⟩, trivial⟩
          · have H := bf h H
            refine wkd ?_
            cases H
            exact weak_of ⟨wn rfl (by first | rfl | simp), rfl, wn rfl (by first | rfl | simp), rfl, rfl, rfl, rfl, rfl, trivial⟩ ⟨rfl, ⟨rfl, rfl⟩, rfl, ⟨rfl, rfl⟩, trivial⟩
        refine wkd ?_
        obtain ⟨v18, Hj, H⟩ := ob H
        refine awc_join ⟨[(3, .v (.c (.w 0 r2.length))), (4, .v (.c (.w 1 v18.length))), (5, tI v3)], [(0, .row 30 3 (r2.map eTStatementLine) true true), (1, .row 30 3 (v18.map eTStatementLine) true true)], 2⟩ ?_ ?_
        · have H := Hj
          refine wkd ?_
          refine awc_cond rfl (fun h => ?_) (fun h => ?_)
          · have H := bt h H
            refine wkd ?_
            obtain ⟨x19, hx19, H⟩ := ob H
            refine awr_n rfl (xwT hx19 (by first | rfl | simp) rfl rfl rfl) ?_
            refine wkd ?_
            refine awr_n rfl (oea rfl rfl rfl (ix_map eTStatementLine hx19) rfl) ?_
            refine wkd ?_
            obtain ⟨h, H⟩ := rq H
            refine awr_step rfl (apT (enc := eTStatementLine) (ys := v4) (zs := [x19]) h rfl (fun _ => rfl) (by first | rfl | simp) (.w rfl (by first | rfl | exact lm _ | simp)) rfl rfl rfl rfl rfl rfl rfl rfl) ?_
            refine wkd ?_
            cases H
            exact weak_of ⟨wn rfl (by first | rfl | simp), rfl, wn rfl (by first | rfl | simp), rfl, rfl, rfl, trivial⟩ ⟨rfl, ⟨rfl, rfl⟩, rfl, ⟨rfl, rfl⟩, trivial⟩
          · have H := bf h H
            refine wkd ?_
            cases H
            exact weak_of ⟨wn rfl (by first | rfl | simp), rfl, wn rfl (by first | rfl | simp), rfl, rfl, rfl, trivial⟩ ⟨rfl, ⟨rfl, rfl⟩, rfl, ⟨rfl, rfl⟩, trivial⟩
        refine wkd ?_
        cases H
        refine iq_n ?_
        exact weak_of ⟨wn rfl (by first | rfl | simp), rfl, wn rfl (by first | rfl | simp), rfl, rfl, rfl, trivial⟩ ⟨rfl, ⟨rfl, rfl⟩, rfl, ⟨rfl, rfl⟩, trivial⟩
      · have H := bf h H
        refine wkd ?_
        cases H
        refine iq_e (fun hq => ?_)
        cases hq
        refine wkd ?_
        exact weak_of ⟨wn rfl (by first | rfl | simp), rfl, trivial⟩ ⟨rfl, ⟨rfl, rfl⟩, trivial⟩
    refine wkd ?_
    obtain ⟨r20, hr20, H⟩ := ob H
    refine awr_n rfl (ca rfl rfl rfl (iNetPayments_c hr20) ⟨by first | rfl | exact lm _, trivial⟩ rfl rfl rfl rfl) ?_
    refine wkd ?_
    refine awc_iter (fun (q : Int × Int) => ⟨[(4, .v (.c (.w 1 v12.length))), (6, .v (.c (.w 2 r20.length))), (7, tI q.1), (8, tI 0), (9, tI q.2)], [(1, .row 30 3 (v12.map eTStatementLine) true true), (2, .row 30 3 (r20.map eTStatementLine) true true)], 3⟩) H (weak_of ⟨wn rfl (by first | rfl | simp), rfl, wn rfl (by first | rfl | simp), rfl, rfl, rfl, rfl, rfl, rfl, rfl, trivial⟩ ⟨rfl, ⟨rfl, rfl⟩, rfl, ⟨rfl, rfl⟩, trivial⟩) ?_
    rintro ⟨v21, v22⟩ o H
    try dsimp only
    refine wkd ?_
    refine awc_cond rfl (fun h => ?_) (fun h => ?_)
    · have H := bt h H
      refine wkd ?_
      obtain ⟨r23, hr23, H⟩ := ob H
      refine awr_n rfl (ca rfl rfl rfl (iNetPosition_c hr23) ⟨by first | rfl | exact lm _, trivial⟩ rfl rfl rfl rfl) ?_
      refine wkd ?_
      obtain ⟨r24, hr24, H⟩ := ob H
      refine awr_n rfl (ca rfl rfl rfl (sNetPosition_c hr24) ⟨by first | rfl | exact lm _, trivial⟩ rfl rfl rfl rfl) ?_
      refine wkd ?_
      obtain ⟨v25, Hj, H⟩ := ob H
      refine awr_join ⟨[(4, .v (.c (.w 1 v12.length))), (6, .v (.c (.w 2 r20.length))), (7, tI v21), (8, tI 0), (9, tI v22), (10, tI r23), (80, tB v25)], [(1, .row 30 3 (v12.map eTStatementLine) true true), (2, .row 30 3 (r20.map eTStatementLine) true true)], 3⟩ ?_ ?_
      · have H := Hj
        refine wkd ?_
        refine g2 rfl rfl rfl (fun h => ?_) (fun h => ?_)
        · have H := bt h H
          refine wkd ?_
          cases H
          exact weak_of ⟨wn rfl (by first | rfl | simp), rfl, wn rfl (by first | rfl | simp), rfl, rfl, rfl, rfl, rfl, rfl, rfl, rfl, rfl, rfl, rfl, trivial⟩ ⟨rfl, ⟨rfl, rfl⟩, rfl, ⟨rfl, rfl⟩, trivial⟩
        · have H := bf h H
          refine wkd ?_
          obtain ⟨r26, hr26, H⟩ := ob H
          refine awr_ng rfl rfl rfl rfl (ca rfl rfl rfl (iNetPosition_c hr26) ⟨by first | rfl | exact lm _, trivial⟩ rfl rfl rfl rfl) ?_
          refine wkd ?_
          cases H
          exact weak_of ⟨wn rfl (by first | rfl | simp), rfl, wn rfl (by first | rfl | simp), rfl, rfl, rfl, rfl, rfl, rfl, rfl, rfl, rfl, rfl, rfl, trivial⟩ ⟨rfl, ⟨rfl, rfl⟩, rfl, ⟨rfl, rfl⟩, trivial⟩
      refine wkd ?_
      refine awc_cond rfl (fun h => ?_) (fun h => ?_)
      · have H := bt h H
        refine wkd ?_
        obtain ⟨r0, Hd, rfl⟩ := dnE H
        refine iq_r (fun hq => ?_)
        have H := Hd.trans (congrArg some hq)
        refine wkd ?_
        cases H
        exact fin_ret (.cons (.tmp rfl) .nil) rfl rfl rfl
      · have H := bf h H
        refine wkd ?_
        cases H
        refine iq_n ?_
        exact weak_of ⟨wn rfl (by first | rfl | simp), rfl, wn rfl (by first | rfl | simp), rfl, rfl, rfl, rfl, rfl, rfl, rfl, trivial⟩ ⟨rfl, ⟨rfl, rfl⟩, rfl, ⟨rfl, rfl⟩, trivial⟩
    · have H := bf h H
      refine wkd ?_
      obtain ⟨r0, Hd, rfl⟩ := dnE H
      refine iq_e (fun hq => ?_)
      have H := Hd.trans (congrArg some hq)
      refine wkd ?_
      refine awc_iter (fun (q : Int × Int) => ⟨[(4, .v (.c (.w 1 v12.length))), (6, .v (.c (.w 2 r20.length))), (7, tI v21), (8, tI q.1), (11, tI q.2)], [(1, .row 30 3 (v12.map eTStatementLine) true true), (2, .row 30 3 (r20.map eTStatementLine) true true)], 3⟩) H (weak_of ⟨wn rfl (by first | rfl | simp), rfl, wn rfl (by first | rfl | simp), rfl, rfl, rfl, rfl, rfl, rfl, rfl, trivial⟩ ⟨rfl, ⟨rfl, rfl⟩, rfl, ⟨rfl, rfl⟩, trivial⟩) ?_
      rintro ⟨v27, v28⟩ o H
      try dsimp only
      refine wkd ?_
      refine awc_cond rfl (fun h => ?_) (fun h => ?_)
      · have H := bt h H
        refine wkd ?_
        obtain ⟨x29, hx29, H⟩ := ob H
        refine dr_n rfl (xwT hx29 (by first | rfl | simp) rfl rfl rfl) ?_
        refine wkd ?_
        refine dr_n rfl (oe rfl rfl rfl (ix_map eTStatementLine hx29) rfl) ?_
        refine wkd ?_
        obtain ⟨v30, Hj, H⟩ := ob H
        refine dr_join ⟨[(4, .v (.c (.w 1 v12.length))), (6, .v (.c (.w 2 r20.length))), (7, tI v21), (8, tI v27), (11, tI v28), (108, tB v30)], [(1, .row 30 3 (v12.map eTStatementLine) true true), (2, .row 30 3 (r20.map eTStatementLine) true true)], 3⟩ ?_ ?_
        · have H := Hj
          refine wkd ?_
          refine dg2 rfl rfl rfl (fun h => ?_) (fun h => ?_)
          · have H := bt h H
            refine wkd ?_
            cases H
            exact weak_of ⟨wn rfl (by first | rfl | simp), rfl, wn rfl (by first | rfl | simp), rfl, rfl, rfl, rfl, rfl, rfl, rfl, rfl, rfl, trivial⟩ ⟨rfl, ⟨rfl, rfl⟩, rfl, ⟨rfl, rfl⟩, trivial⟩
          · have H := bf h H
            refine wkd ?_
            obtain ⟨x31, hx31, H⟩ := ob H
            refine dr_ng rfl rfl rfl rfl (xwT hx31 (by first | rfl | simp) rfl rfl rfl) ?_
            refine wkd ?_
            refine dr_ng rfl rfl rfl rfl (oe rfl rfl rfl (ix_map eTStatementLine hx31) rfl) ?_
            refine wkd ?_
            obtain ⟨x32, hx32, H⟩ := ob H
            refine dr_ng rfl rfl rfl rfl (xwT hx32 (by first | rfl | simp) rfl rfl rfl) ?_
            refine wkd ?_
            refine dr_ng rfl rfl rfl rfl (oe rfl rfl rfl (ix_map eTStatementLine hx32) rfl) ?_
            refine wkd ?_
            cases H
            exact weak_of ⟨wn rfl (by first | rfl | simp), rfl, wn rfl (by first | rfl | simp), rfl, rfl, rfl, rfl, rfl, rfl, rfl, rfl, rfl, trivial⟩ ⟨rfl, ⟨rfl, rfl⟩, rfl, ⟨rfl, rfl⟩, trivial⟩
        refine wkd ?_
        refine awc_cond rfl (fun h => ?_) (fun h => ?_)
        · have H := bt h H
          refine wkd ?_
          obtain ⟨r0, Hd, rfl⟩ := dnE H
          refine iq_r (fun hq => ?_)
          have H := Hd.trans (congrArg some hq)
          refine wkd ?_
          cases H
          exact fin_ret (.cons (.tmp rfl) .nil) rfl rfl rfl
        · have H := bf h H
          refine wkd ?_
          obtain ⟨x33, hx33, H⟩ := ob H
          refine awr_n rfl (xwT hx33 (by first | rfl | simp) rfl rfl rfl) ?_
          refine wkd ?_
          refine awr_n rfl (oe rfl rfl rfl (ix_map eTStatementLine hx33) rfl) ?_
          refine wkd ?_
          cases H
          refine iq_n ?_
          exact weak_of ⟨wn rfl (by first | rfl | simp), rfl, wn rfl (by first | rfl | simp), rfl, rfl, rfl, rfl, rfl, rfl, rfl, trivial⟩ ⟨rfl, ⟨rfl, rfl⟩, rfl, ⟨rfl, rfl⟩, trivial⟩
      · have H := bf h H
        refine wkd ?_
        obtain ⟨r0, Hd, rfl⟩ := dnE H
        refine iq_e (fun hq => ?_)
        have H := Hd.trans (congrArg some hq)
        refine wkd ?_
        obtain ⟨v34, Hj, H⟩ := ob H
        refine awr_join ⟨[(2, tB v34)], [], 0⟩ ?_ ?_
        · have H := Hj
          refine wkd ?_
          refine g2 rfl rfl rfl (fun h => ?_) (fun h => ?_)
          · have H := bt h H
            refine wkd ?_
            obtain ⟨r35, hr35, H⟩ := ob H
            refine awr_ng rfl rfl rfl rfl (ca rfl rfl rfl (iTotalTurnover_c hr35) ⟨by first | rfl | exact lm _, trivial⟩ rfl rfl rfl rfl) ?_
            refine wkd ?_
            refine g2 rfl rfl rfl (fun h => ?_) (fun h => ?_)
            · have H := bt h H
              refine wkd ?_
              obtain ⟨r36, hr36, H⟩ := ob H
              refine awr_ng rfl rfl rfl rfl (ca rfl rfl rfl (iTotalTurnover_c hr36) ⟨by first | rfl | exact lm _, trivial⟩ rfl rfl rfl rfl) ?_
              refine wkd ?_
              refine g2 rfl rfl rfl (fun h => ?_) (fun h => ?_)
              · have H := bt h H
                refine wkd ?_
                obtain ⟨r37, hr37, H⟩ := ob H
                refine awr_ng rfl rfl rfl rfl (ca rfl rfl rfl (iTotalTurnover_c hr37) ⟨by first | rfl | exact lm _, trivial⟩ rfl rfl rfl rfl) ?_
                refine wkd ?_
                obtain ⟨r38, hr38, H⟩ := ob H
                refine awr_ng rfl rfl rfl rfl (ca rfl rfl rfl (sTotalTurnover_c hr38) ⟨by first | rfl | exact lm _, trivial⟩ rfl rfl rfl rfl) ?_
                refine wkd ?_
                cases H
                exact weak_of ⟨rfl, rfl, trivial⟩ trivial
              · have H := bf h H
                refine wkd ?_
                cases H
                exact weak_of ⟨rfl, rfl, trivial⟩ trivial
            · have H := bf h H
              refine wkd ?_
              cases H
              exact weak_of ⟨rfl, rfl, trivial⟩ trivial
          · have H := bf h H
            refine wkd ?_
            cases H
            exact weak_of ⟨rfl, rfl, trivial⟩ trivial
        refine wkd ?_
        cases H
        exact fin_ret (.cons (.tmp rfl) .nil) rfl rfl rfl
def lFnExactReadableEpochs (a0 : List TLeakedKey) (a1 : Int) (a2 : Int) : Option Bool :=
  Option.bind (lszLeakedKeyS a0 1048576) fun r1 => bif ltB r1 0 then (some true) else (Option.bind (ltoLeakedKeyS a0) fun r2 => Option.bind (sReadableEpochs r2 a1 a2) fun r3 => Option.bind (ltoLeakedKeyS a0) fun r4 => Option.bind (iReadableEpochs r4 a1 a2) fun r5 => Option.bind (leqIntS r5 r3) fun r6 => bif !r6 then (some false) else (Option.bind (ltoLeakedKeyS a0) fun r7 => Option.bind (leqLeakedKeyS r4 r7) fun r8 => bif !r8 then (some false) else (Option.bind (lmarkLeakedKeyS_z r4 1) fun r9 => Option.bind (bif ltB r9 0 then (some true) else (Option.bind (leqIntS r5 r3) fun r11 => some (!r11))) fun (v10 : Bool) => bif v10 then (some false) else (Option.bind (lmarkIntS r5 1) fun r12 => bif lenEq r12.2 r5 then (Option.bind (lheldIntS r12.2 1) fun r13 => bif ltB r13 0 then (some false) else (bif !eqB r13 r12.1 then (some false) else (Option.bind (ltoLeakedKeyS a0) fun r14 => Option.bind (iReadableEpochs r14 a1 a2) fun r15 => Option.bind (leqIntS r15 r3) fun r16 => bif !r16 then (some false) else (Option.bind (lheldIntS r12.2 1) fun r17 => bif ltB r17 0 then (some false) else (bif !eqB r17 r12.1 then (some false) else (some true)))))) else none))))
theorem lFnExactReadableEpochs_c {a0 : List TLeakedKey} {a1 : Int} {a2 : Int} {r : Bool} (H : lFnExactReadableEpochs a0 a1 a2 = some r) : Fn Try.prog 7 [aL (a0.map eTLeakedKey), aI a1, aI a2] [.c (.d (.b r))] := by
  refine fn_in Try.func7 rfl (by kernel_rfl) Try.ntmps7 rfl rfl rfl ?_
  refine wk ?_
  obtain ⟨r1, hr1, H⟩ := ob H
  refine awr_n rfl (ca rfl rfl rfl (lszLeakedKeyS_c hr1) trivial rfl rfl rfl rfl) ?_
  refine wk ?_
  refine awc_cond rfl (fun h => ?_) (fun h => ?_)
  · have H := bt h H
    refine wk ?_
    cases H
    exact fin_ret (.cons (.tmp rfl) .nil) rfl rfl rfl
  · have H := bf h H
    refine wk ?_
    obtain ⟨r2, hr2, H⟩ := ob H
    refine awr_step rfl (car rfl rfl rfl (ltoLeakedKeyS_c hr2) trivial rfl ⟨by first | rfl | exact lm _, trivial⟩ rfl rfl) ?_
    refine wk ?_
    obtain ⟨r3, hr3, H⟩ := ob H
    refine awr_n rfl (ca rfl rfl rfl (sReadableEpochs_c hr3) trivial rfl rfl rfl rfl) ?_
    refine wk ?_
    obtain ⟨r4, hr4, H⟩ := ob H
    refine awr_step rfl (car rfl rfl rfl (ltoLeakedKeyS_c hr4) trivial rfl ⟨by first | rfl | exact lm _, trivial⟩ rfl rfl) ?_
    refine wk ?_
    obtain ⟨r5, hr5, H⟩ := ob H
    refine awr_n rfl (ca rfl rfl rfl (iReadableEpochs_c hr5) trivial rfl rfl rfl rfl) ?_
    refine wk ?_
    obtain ⟨r6, hr6, H⟩ := ob H
    refine awr_n rfl (ca rfl rfl rfl (leqIntS_c hr6) ⟨by first | rfl | exact lm _, by first | rfl | exact lm _, trivial⟩ rfl rfl rfl rfl) ?_
    refine wk ?_
    refine awc_cond rfl (fun h => ?_) (fun h => ?_)
    · have H := bt h H
      refine wk ?_
      cases H
      exact fin_ret (.cons (.tmp rfl) .nil) rfl rfl rfl
    · have H := bf h H
      refine wk ?_
      obtain ⟨r7, hr7, H⟩ := ob H
      refine awr_step rfl (car rfl rfl rfl (ltoLeakedKeyS_c hr7) trivial rfl ⟨by first | rfl | exact lm _, trivial⟩ rfl rfl) ?_
      refine wk ?_
      obtain ⟨r8, hr8, H⟩ := ob H
      refine awr_n rfl (ca rfl rfl rfl (leqLeakedKeyS_c hr8) trivial rfl rfl rfl rfl) ?_
      refine wk ?_
      refine awc_cond rfl (fun h => ?_) (fun h => ?_)
      · have H := bt h H
        refine wk ?_
        cases H
        exact fin_ret (.cons (.tmp rfl) .nil) rfl rfl rfl
      · have H := bf h H
        refine wk ?_
        obtain ⟨r9, hr9, H⟩ := ob H
        refine awr_step rfl (cm (l := 2) rfl rfl (lmarkLeakedKeyS_z_c hr9) rfl rfl rfl) ?_
        refine wk ?_
        obtain ⟨v10, Hj, H⟩ := ob H
        refine awr_join ⟨[(0, .v (.c (.d false (.l (a0.map eTLeakedKey))))), (1, tI a1), (2, tI a2), (8, .v (.c (.w 1 r3.length))), (10, .v (.c (.w 3 r5.length))), (50, tB v10)], [(1, .row 3 1 (r3.map eI) true true), (3, .row 3 1 (r5.map eI) true true)], 4⟩ ?_ ?_
        · have H := Hj
          refine wk ?_
          refine g2 rfl rfl rfl (fun h => ?_) (fun h => ?_)
          · have H := bt h H
            refine wk ?_
            cases H
            exact weak_of ⟨rfl, rfl, rfl, rfl, rfl, rfl, wn rfl (by first | rfl | simp), rfl, wn rfl (by first | rfl | simp), rfl, rfl, rfl, trivial⟩ ⟨rfl, ⟨rfl, rfl⟩, rfl, ⟨rfl, rfl⟩, trivial⟩
          · have H := bf h H
            refine wk ?_
            obtain ⟨r11, hr11, H⟩ := ob H
            refine awr_ng rfl rfl rfl rfl (ca rfl rfl rfl (leqIntS_c hr11) ⟨by first | rfl | exact lm _, by first | rfl | exact lm _, trivial⟩ rfl rfl rfl rfl) ?_
            refine wk ?_
            cases H
            exact weak_of ⟨rfl, rfl, rfl, rfl, rfl, rfl, wn rfl (by first | rfl | simp), rfl, wn rfl (by first | rfl | simp), rfl, rfl, rfl, trivial⟩ ⟨rfl, ⟨rfl, rfl⟩, rfl, ⟨rfl, rfl⟩, trivial⟩
        refine wk ?_
        refine awc_cond rfl (fun h => ?_) (fun h => ?_)
        · have H := bt h H
          refine wk ?_
          cases H
          exact fin_ret (.cons (.tmp rfl) .nil) rfl rfl rfl
        · have H := bf h H
          refine wk ?_
          obtain ⟨r12, hr12, H⟩ := ob H
          obtain ⟨hl, H⟩ := rq H
          refine awr_step rfl (cw (o := 3) (lmarkIntS_c hr12) rfl rfl rfl rfl rfl rfl trivial rfl rfl rfl rfl) ?_
          refine awr_weak (weak_flat (enc := eI) (o := 3) rfl (fun _ => rfl)) ?_
          refine awr_weak (weak_wn (k := 10) rfl (leqE hl)) ?_
          refine awr_weak (weak_wn (k := 51) rfl (leqE hl)) ?_
          refine wk ?_
          obtain ⟨r13, hr13, H⟩ := ob H
          refine awr_n rfl (ca rfl rfl rfl (lheldIntS_c hr13) ⟨by first | rfl | exact lm _, trivial⟩ rfl rfl rfl rfl) ?_
          refine wk ?_
          refine awc_cond rfl (fun h => ?_) (fun h => ?_)
          · have H := bt h H
            refine wk ?_
            cases H
            exact fin_ret (.cons (.tmp rfl) .nil) rfl rfl rfl
          · have H := bf h H
            refine wk ?_
            refine awc_cond rfl (fun h => ?_) (fun h => ?_)
            · have H := bt h H
              refine wk ?_
              cases H
              exact fin_ret (.cons (.tmp rfl) .nil) rfl rfl rfl
            · have H := bf h H
              refine wk ?_
              obtain ⟨r14, hr14, H⟩ := ob H
              refine awr_step rfl (car rfl rfl rfl (ltoLeakedKeyS_c hr14) trivial rfl ⟨by first | rfl | exact lm _, trivial⟩ rfl rfl) ?_
              refine wk ?_
              obtain ⟨r15, hr15, H⟩ := ob H
              refine awr_n rfl (ca rfl rfl rfl (iReadableEpochs_c hr15) trivial rfl rfl rfl rfl) ?_
              refine wk ?_
              obtain ⟨r16, hr16, H⟩ := ob H
              refine awr_n rfl (ca rfl rfl rfl (leqIntS_c hr16) ⟨by first | rfl | exact lm _, by first | rfl | exact lm _, trivial⟩ rfl rfl rfl rfl) ?_
              refine wk ?_
              refine awc_cond rfl (fun h => ?_) (fun h => ?_)
              · have H := bt h H
                refine wk ?_
                cases H
                exact fin_ret (.cons (.tmp rfl) .nil) rfl rfl rfl
              · have H := bf h H
                refine wk ?_
                obtain ⟨r17, hr17, H⟩ := ob H
                refine awr_n rfl (ca rfl rfl rfl (lheldIntS_c hr17) ⟨by first | rfl | exact lm _, trivial⟩ rfl rfl rfl rfl) ?_
                refine wk ?_
                refine awc_cond rfl (fun h => ?_) (fun h => ?_)
                · have H := bt h H
                  refine wk ?_
                  cases H
                  exact fin_ret (.cons (.tmp rfl) .nil) rfl rfl rfl
                · have H := bf h H
                  refine wk ?_
                  refine awc_cond rfl (fun h => ?_) (fun h => ?_)
                  · have H := bt h H
                    refine wk ?_
                    cases H
                    exact fin_ret (.cons (.tmp rfl) .nil) rfl rfl rfl
                  · have H := bf h H
                    refine wk ?_
                    cases H
                    exact fin_ret (.cons (.tmp rfl) .nil) rfl rfl rfl
def lFnExactSettlement (a0 : List TOperatorBook) (a1 : List TRoamingAgreement) : Option Bool :=
  Option.bind (lszOperatorBookS a0 1048576) fun r1 => bif ltB r1 0 then (some true) else (Option.bind (lszRoamingAgreementS a1 r1) fun r2 => bif ltB r2 0 then (some true) else (Option.bind (ltoOperatorBookS a0) fun r3 => Option.bind (ltoRoamingAgreementS a1) fun r4 => Option.bind (sSettlement r3 r4) fun r5 => Option.bind (ltoOperatorBookS a0) fun r6 => Option.bind (ltoRoamingAgreementS a1) fun r7 => Option.bind (iSettlement r6 r7) fun r8 => Option.bind (leqStatementLineS r8 r5) fun r9 => bif !r9 then (some false) else (Option.bind (ltoOperatorBookS a0) fun r10 => Option.bind (leqOperatorBookS r6 r10) fun r11 => bif !r11 then (some false) else (Option.bind (ltoRoamingAgreementS a1) fun r12 => Option.bind (leqRoamingAgreementS r7 r12) fun r13 => bif !r13 then (some false) else (Option.bind (lmarkOperatorBookS_z r6 1) fun r14 => Option.bind (lmarkRoamingAgreementS_z r7 r14) fun r15 => Option.bind (bif ltB r15 0 then (some true) else (Option.bind (leqStatementLineS r8 r5) fun r17 => some (!r17))) fun (v16 : Bool) => bif v16 then (some false) else (Option.bind (lmarkStatementLineS r8 1) fun r18 => bif lenEq r18.2 r8 then (Option.bind (lheldStatementLineS r18.2 1) fun r19 => bif ltB r19 0 then (some false) else (bif !eqB r19 r18.1 then (some false) else (Option.bind (ltoOperatorBookS a0) fun r20 => Option.bind (ltoRoamingAgreementS a1) fun r21 => Option.bind (iSettlement r20 r21) fun r22 => Option.bind (leqStatementLineS r22 r5) fun r23 => bif !r23 then (some false) else (Option.bind (lheldStatementLineS r18.2 1) fun r24 => bif ltB r24 0 then (some false) else (bif !eqB r24 r18.1 then (some false) else (some true)))))) else none))))))
theorem lFnExactSettlement_c {a0 : List TOperatorBook} {a1 : List TRoamingAgreement} {r : Bool} (H : lFnExactSettlement a0 a1 = some r) : Fn Try.prog 9 [aL (a0.map eTOperatorBook), aL (a1.map eTRoamingAgreement)] [.c (.d (.b r))] := by
  refine fn_in Try.func9 rfl (by kernel_rfl) Try.ntmps9 rfl rfl rfl ?_
  refine wk ?_
  obtain ⟨r1, hr1, H⟩ := ob H
  refine awr_n rfl (ca rfl rfl rfl (lszOperatorBookS_c hr1) trivial rfl rfl rfl rfl) ?_
  refine wk ?_
  refine awc_cond rfl (fun h => ?_) (fun h => ?_)
  · have H := bt h H
    refine wk ?_
    cases H
    exact fin_ret (.cons (.tmp rfl) .nil) rfl rfl rfl
  · have H := bf h H
    refine wk ?_
    obtain ⟨r2, hr2, H⟩ := ob H
    refine awr_n rfl (ca rfl rfl rfl (lszRoamingAgreementS_c hr2) trivial rfl rfl rfl rfl) ?_
    refine wk ?_
    refine awc_cond rfl (fun h => ?_) (fun h => ?_)
    · have H := bt h H
      refine wk ?_
      cases H
      exact fin_ret (.cons (.tmp rfl) .nil) rfl rfl rfl
    · have H := bf h H
      refine wk ?_
      obtain ⟨r3, hr3, H⟩ := ob H
      refine awr_step rfl (car rfl rfl rfl (ltoOperatorBookS_c hr3) trivial rfl ⟨by first | rfl | exact lm _, trivial⟩ rfl rfl) ?_
      refine wk ?_
      obtain ⟨r4, hr4, H⟩ := ob H
      refine awr_step rfl (car rfl rfl rfl (ltoRoamingAgreementS_c hr4) trivial rfl ⟨by first | rfl | exact lm _, trivial⟩ rfl rfl) ?_
      refine wk ?_
      obtain ⟨r5, hr5, H⟩ := ob H
      refine awr_n rfl (ca rfl rfl rfl (sSettlement_c hr5) trivial rfl rfl rfl rfl) ?_
      refine wk ?_
      obtain ⟨r6, hr6, H⟩ := ob H
      refine awr_step rfl (car rfl rfl rfl (ltoOperatorBookS_c hr6) trivial rfl ⟨by first | rfl | exact lm _, trivial⟩ rfl rfl) ?_
      refine wk ?_
      obtain ⟨r7, hr7, H⟩ := ob H
      refine awr_step rfl (car rfl rfl rfl (ltoRoamingAgreementS_c hr7) trivial rfl ⟨by first | rfl | exact lm _, trivial⟩ rfl rfl) ?_
      refine wk ?_
      obtain ⟨r8, hr8, H⟩ := ob H
      refine awr_n rfl (ca rfl rfl rfl (iSettlement_c hr8) trivial rfl rfl rfl rfl) ?_
      refine wk ?_
      obtain ⟨r9, hr9, H⟩ := ob H
      refine awr_n rfl (ca rfl rfl rfl (leqStatementLineS_c hr9) ⟨by first | rfl | exact lm _, by first | rfl | exact lm _, trivial⟩ rfl rfl rfl rfl) ?_
      refine wk ?_
      refine awc_cond rfl (fun h => ?_) (fun h => ?_)
      · have H := bt h H
        refine wk ?_
        cases H
        exact fin_ret (.cons (.tmp rfl) .nil) rfl rfl rfl
      · have H := bf h H
        refine wk ?_
        obtain ⟨r10, hr10, H⟩ := ob H
        refine awr_step rfl (car rfl rfl rfl (ltoOperatorBookS_c hr10) trivial rfl ⟨by first | rfl | exact lm _, trivial⟩ rfl rfl) ?_
        refine wk ?_
        obtain ⟨r11, hr11, H⟩ := ob H
        refine awr_n rfl (ca rfl rfl rfl (leqOperatorBookS_c hr11) trivial rfl rfl rfl rfl) ?_
        refine wk ?_
        refine awc_cond rfl (fun h => ?_) (fun h => ?_)
        · have H := bt h H
          refine wk ?_
          cases H
          exact fin_ret (.cons (.tmp rfl) .nil) rfl rfl rfl
        · have H := bf h H
          refine wk ?_
          obtain ⟨r12, hr12, H⟩ := ob H
          refine awr_step rfl (car rfl rfl rfl (ltoRoamingAgreementS_c hr12) trivial rfl ⟨by first | rfl | exact lm _, trivial⟩ rfl rfl) ?_
          refine wk ?_
          obtain ⟨r13, hr13, H⟩ := ob H
          refine awr_n rfl (ca rfl rfl rfl (leqRoamingAgreementS_c hr13) trivial rfl rfl rfl rfl) ?_
          refine wk ?_
          refine awc_cond rfl (fun h => ?_) (fun h => ?_)
          · have H := bt h H
            refine wk ?_
            cases H
            exact fin_ret (.cons (.tmp rfl) .nil) rfl rfl rfl
          · have H := bf h H
            refine wk ?_
            obtain ⟨r14, hr14, H⟩ := ob H
            refine awr_step rfl (cm (l := 3) rfl rfl (lmarkOperatorBookS_z_c hr14) rfl rfl rfl) ?_
            refine wk ?_
            obtain ⟨r15, hr15, H⟩ := ob H
            refine awr_step rfl (cm (l := 4) rfl rfl (lmarkRoamingAgreementS_z_c hr15) rfl rfl rfl) ?_
            refine wk ?_
            obtain ⟨v16, Hj, H⟩ := ob H
            refine awr_join ⟨[(0, .v (.c (.d false (.l (a0.map eTOperatorBook))))), (1, .v (.c (.d false (.l (a1.map eTRoamingAgreement))))), (6, .v (.c (.w 2 r5.length))), (9, .v (.c (.w 5 r8.length))), (63, tB v16)], [(2, .row 30 3 (r5.map eTStatementLine) true true), (5, .row 30 3 (r8.map eTStatementLine) true true)], 6⟩ ?_ ?_
            · have H := Hj
              refine wk ?_
              refine g2 rfl rfl rfl (fun h => ?_) (fun h => ?_)
              · have H := bt h H
                refine wk ?_
                cases H
                exact weak_of ⟨rfl, rfl, rfl, rfl, wn rfl (by first | rfl | simp), rfl, wn rfl (by first | rfl | simp), rfl, rfl, rfl, trivial⟩ ⟨rfl, ⟨rfl, rfl⟩, rfl, ⟨rfl, rfl⟩, trivial⟩
              · have H := bf h H
                refine wk ?_
                obtain ⟨r17, hr17, H⟩ := ob H
                refine awr_ng rfl rfl rfl rfl (ca rfl rfl rfl (leqStatementLineS_c hr17) ⟨by first | rfl | exact lm _, by first | rfl | exact lm _, trivial⟩ rfl rfl rfl rfl) ?_
                refine wk ?_
                cases H
                exact weak_of ⟨rfl, rfl, rfl, rfl, wn rfl (by first | rfl | simp), rfl, wn rfl (by first | rfl | simp), rfl, rfl, rfl, trivial⟩ ⟨rfl, ⟨rfl, rfl⟩, rfl, ⟨rfl, rfl⟩, trivial⟩
            refine wk ?_
            refine awc_cond rfl (fun h => ?_) (fun h => ?_)
            · have H := bt h H
              refine wk ?_
              cases H
              exact fin_ret (.cons (.tmp rfl) .nil) rfl rfl rfl
            · have H := bf h H
              refine wk ?_
              obtain ⟨r18, hr18, H⟩ := ob H
              obtain ⟨hl, H⟩ := rq H
              refine awr_step rfl (cw (o := 5) (lmarkStatementLineS_c hr18) rfl rfl rfl rfl rfl rfl trivial rfl rfl rfl rfl) ?_
              refine awr_weak (weak_flat (enc := eTStatementLine) (o := 5) rfl (fun _ => rfl)) ?_
              refine awr_weak (weak_wn (k := 9) rfl (leqE hl)) ?_
              refine awr_weak (weak_wn (k := 64) rfl (leqE hl)) ?_
              refine wk ?_
              obtain ⟨r19, hr19, H⟩ := ob H
              refine awr_n rfl (ca rfl rfl rfl (lheldStatementLineS_c hr19) ⟨by first | rfl | exact lm _, trivial⟩ rfl rfl rfl rfl) ?_
              refine wk ?_
              refine awc_cond rfl (fun h => ?_) (fun h => ?_)
              · have H := bt h H
                refine wk ?_
                cases H
                exact fin_ret (.cons (.tmp rfl) .nil) rfl rfl rfl
              · have H := bf h H
                refine wk ?_
                refine awc_cond rfl (fun h => ?_) (fun h => ?_)
                · have H := bt h H
                  refine wk ?_
                  cases H
                  exact fin_ret (.cons (.tmp rfl) .nil) rfl rfl rfl
                · have H := bf h H
                  refine wk ?_
                  obtain ⟨r20, hr20, H⟩ := ob H
                  refine awr_step rfl (car rfl rfl rfl (ltoOperatorBookS_c hr20) trivial rfl ⟨by first | rfl | exact lm _, trivial⟩ rfl rfl) ?_
                  refine wk ?_
                  obtain ⟨r21, hr21, H⟩ := ob H
                  refine awr_step rfl (car rfl rfl rfl (ltoRoamingAgreementS_c hr21) trivial rfl ⟨by first | rfl | exact lm _, trivial⟩ rfl rfl) ?_
                  refine wk ?_
                  obtain ⟨r22, hr22, H⟩ := ob H
                  refine awr_n rfl (ca rfl rfl rfl (iSettlement_c hr22) trivial rfl rfl rfl rfl) ?_
                  refine wk ?_
                  obtain ⟨r23, hr23, H⟩ := ob H
                  refine awr_n rfl (ca rfl rfl rfl (leqStatementLineS_c hr23) ⟨by first | rfl | exact lm _, by first | rfl | exact lm _, trivial⟩ rfl rfl rfl rfl) ?_
                  refine wk ?_
                  refine awc_cond rfl (fun h => ?_) (fun h => ?_)
                  · have H := bt h H
                    refine wk ?_
                    cases H
                    exact fin_ret (.cons (.tmp rfl) .nil) rfl rfl rfl
                  · have H := bf h H
                    refine wk ?_
                    obtain ⟨r24, hr24, H⟩ := ob H
                    refine awr_n rfl (ca rfl rfl rfl (lheldStatementLineS_c hr24) ⟨by first | rfl | exact lm _, trivial⟩ rfl rfl rfl rfl) ?_
                    refine wk ?_
                    refine awc_cond rfl (fun h => ?_) (fun h => ?_)
                    · have H := bt h H
                      refine wk ?_
                      cases H
                      exact fin_ret (.cons (.tmp rfl) .nil) rfl rfl rfl
                    · have H := bf h H
                      refine wk ?_
                      refine awc_cond rfl (fun h => ?_) (fun h => ?_)
                      · have H := bt h H
                        refine wk ?_
                        cases H
                        exact fin_ret (.cons (.tmp rfl) .nil) rfl rfl rfl
                      · have H := bf h H
                        refine wk ?_
                        cases H
                        exact fin_ret (.cons (.tmp rfl) .nil) rfl rfl rfl
end Go.AM
