/-
  Own text: a part of the abstract machine for this seat (Dal). No statement is proved here.
-/
import Derived.Test.YtmlpfnppnjfcaaaDoorDas
import Derived.Test.YtmlpfnppnjfcaaaDoorDam
set_option linter.unusedVariables false
namespace Go.AM
open Go.Proofs
attribute [local irreducible] AWN NS AWO AWR AWC DR Weak iterQ
set_option maxRecDepth 100000
set_option maxHeartbeats 4000000
def lFnSettlementLines_L2 (r2 : List TOperatorBook × List TRoamingAgreement) (r3 : List TStatementLine) (v6 : Int) (r8 : Int) (r10 : Int) : (Bool × Int) → Option (Step (Bool × Int) (Bool))
  | (v16, v17) => bif ltB v17 ((r2.2.length : Nat) : Int) then (Option.bind (bif v16 then (some true) else (Option.bind (ix r2.2 v17) fun x33 => Option.bind (ix r3 v6) fun x34 => bif eqB x33.Home x34.Payer then (Option.bind (ix r2.2 v17) fun x35 => Option.bind (ix r3 v6) fun x36 => bif eqB x35.Visited x36.Payee then (Option.bind (ix r3 v6) fun x37 => bif leB 1 x37.Amount then (Option.bind (ix r3 v6) fun x38 => Option.bind (ix r2.2 v17) fun x39 => bif leB x38.Amount x39.Cap then (Option.bind (ix r3 v6) fun x40 => Option.bind (ix r2.2 v17) fun x41 => Option.bind (ix r2.1 r8) fun x42 => Option.bind (ix r2.1 r10) fun x43 => Option.bind (iAmountOwed x41 x42.Own x43.Claims) fun r44 => some (eqB x40.Amount r44)) else (some false)) else (some false)) else (some false)) else (some false))) fun (v32 : Bool) => some (.next (v32, WR (v17 + 1)))) else (some (.done v16))
def lFnSettlementLines_L1 (r2 : List TOperatorBook × List TRoamingAgreement) (r3 : List TStatementLine) : Int → Option (Step (Int) (Bool))
  | v6 => bif ltB v6 ((r3.length : Nat) : Int) then (Option.bind (ix r3 v6) fun x7 => Option.bind (iFindBook r2.1 x7.Payer) fun r8 => Option.bind (ix r3 v6) fun x9 => Option.bind (iFindBook r2.1 x9.Payee) fun r10 => Option.bind (bif ltB r8 0 then (some true) else (bif ltB r10 0 then (some true) else (bif leB ((r2.1.length : Nat) : Int) r8 then (some true) else (bif leB ((r2.1.length : Nat) : Int) r10 then (some true) else (Option.bind (ix r2.1 r8) fun x12 => Option.bind (iIsValidBook x12) fun r13 => bif !r13 then (some true) else (Option.bind (ix r2.1 r10) fun x14 => Option.bind (iIsValidBook x14) fun r15 => some (!r15))))))) fun (v11 : Bool) => bif v11 then (dn (some false)) else (Option.bind (iter (lFnSettlementLines_L2 r2 r3 v6 r8 r10) FU (false, 0)) fun (v31 : Bool) => bif !v31 then (dn (some false)) else (some (.next (WR (v6 + 1)))))) else (dn (Option.bind (iFormatStatement r3) fun r45 => some (booB (strB r45 (⟨#[45]⟩ : ByteArray)) (eqB ((r3.length : Nat) : Int) 0))))
def lFnSettlementLines (a0 : List Int) : Option Bool :=
  Option.bind (lbig a0) fun r1 => bif r1 then (some true) else (Option.bind (sDrawBooks a0) fun r2 => Option.bind (iSettlement r2.1 r2.2) fun r3 => Option.bind (sSettlement r2.1 r2.2) fun r4 => Option.bind (bif !eqB ((r3.length : Nat) : Int) ((r4.length : Nat) : Int) then (some true) else (some (ltB 12 ((r3.length : Nat) : Int)))) fun (v5 : Bool) => bif v5 then (some false) else (iter (lFnSettlementLines_L1 r2 r3) FU 0))
theorem lFnSettlementLines_c {a0 : List Int} {r : Bool} (H : lFnSettlementLines a0 = some r) : Fn Tryd.prog 3 [aL (a0.map eU8)] [.c (.d (.b r))] := by
  refine fn_in Tryd.func3 rfl (by kernel_rfl) Tryd.ntmps3 rfl rfl rfl ?_
  refine wkd ?_
  obtain ⟨r1, hr1, H⟩ := ob H
  refine awr_n rfl (ca rfl rfl rfl (lbig_c hr1) trivial rfl rfl rfl rfl) ?_
  refine wkd ?_
  refine awc_cond rfl (fun h => ?_) (fun h => ?_)
  · have H := bt h H
    refine wkd ?_
    cases H
    exact fin_ret (.cons (.tmp rfl) .nil) rfl rfl rfl
  · have H := bf h H
    refine wkd ?_
    obtain ⟨r2, hr2, H⟩ := ob H
    refine awr_n rfl (ca rfl rfl rfl (sDrawBooks_c hr2) trivial rfl rfl rfl rfl) ?_
    refine wkd ?_
    obtain ⟨r3, hr3, H⟩ := ob H
    refine awr_n rfl (ca rfl rfl rfl (iSettlement_c hr3) ⟨by first | rfl | exact lm _, by first | rfl | exact lm _, trivial⟩ rfl rfl rfl rfl) ?_
    refine wkd ?_
    obtain ⟨r4, hr4, H⟩ := ob H
    refine awr_n rfl (ca rfl rfl rfl (sSettlement_c hr4) ⟨by first | rfl | exact lm _, by first | rfl | exact lm _, trivial⟩ rfl rfl rfl rfl) ?_
    refine wkd ?_
    obtain ⟨v5, Hj, H⟩ := ob H
    refine awr_join ⟨[(3, .v (.c (.w 0 r2.1.length))), (4, .v (.c (.w 1 r2.2.length))), (5, .v (.c (.w 2 r3.length))), (32, tB v5)], [(0, .row 36 3 (r2.1.map eTOperatorBook) true true), (1, .row 38 4 (r2.2.map eTRoamingAgreement) true true), (2, .row 32 3 (r3.map eTStatementLine) true true)], 3⟩ ?_ ?_
    · have H := Hj
      refine wkd ?_
      refine g2 rfl rfl rfl (fun h => ?_) (fun h => ?_)
      · have H := bt h H
        refine wkd ?_
        cases H
        exact weak_of ⟨wn rfl (by first | rfl | simp), rfl, wn rfl (by first | rfl | simp), rfl, wn rfl (by first | rfl | simp), rfl, rfl, rfl, trivial⟩ ⟨rfl, ⟨rfl, rfl⟩, rfl, ⟨rfl, rfl⟩, rfl, ⟨rfl, rfl⟩, trivial⟩
      · have H := bf h H
        refine wkd ?_
        cases H
        exact weak_of ⟨wn rfl (by first | rfl | simp), rfl, wn rfl (by first | rfl | simp), rfl, wn rfl (by first | rfl | simp), rfl, rfl, rfl, trivial⟩ ⟨rfl, ⟨rfl, rfl⟩, rfl, ⟨rfl, rfl⟩, rfl, ⟨rfl, rfl⟩, trivial⟩
    refine wkd ?_
    refine awc_cond rfl (fun h => ?_) (fun h => ?_)
    · have H := bt h H
      refine wkd ?_
      cases H
      exact fin_ret (.cons (.tmp rfl) .nil) rfl rfl rfl
    · have H := bf h H
      refine wkd ?_
      refine awc_iter (fun (q : Int) => ⟨[(3, .v (.c (.w 0 r2.1.length))), (4, .v (.c (.w 1 r2.2.length))), (5, .v (.c (.w 2 r3.length))), (6, tI q)], [(0, .row 36 3 (r2.1.map eTOperatorBook) true true), (1, .row 38 4 (r2.2.map eTRoamingAgreement) true true), (2, .row 32 3 (r3.map eTStatementLine) true true)], 3⟩) H (weak_of ⟨wn rfl (by first | rfl | simp), rfl, wn rfl (by first | rfl | simp), rfl, wn rfl (by first | rfl | simp), rfl, rfl, rfl, trivial⟩ ⟨rfl, ⟨rfl, rfl⟩, rfl, ⟨rfl, rfl⟩, rfl, ⟨rfl, rfl⟩, trivial⟩) ?_
      rintro v6 o H
      try dsimp only
      refine wkd ?_
      refine awc_cond rfl (fun h => ?_) (fun h => ?_)
      · have H := bt h H
        refine wkd ?_
        obtain ⟨x7, hx7, H⟩ := ob H
        refine awr_n rfl (xwT hx7 (by first | rfl | simp) rfl rfl rfl) ?_
        refine wkd ?_
        refine awr_n rfl (oe rfl rfl rfl (ix_map eTStatementLine hx7) rfl) ?_
        refine wkd ?_
        obtain ⟨r8, hr8, H⟩ := ob H
        refine awr_n rfl (ca rfl rfl rfl (iFindBook_c hr8) ⟨by first | rfl | exact lm _, trivial⟩ rfl rfl rfl rfl) ?_
        refine wkd ?_
        obtain ⟨x9, hx9, H⟩ := ob H
        refine awr_n rfl (xwT hx9 (by first | rfl | simp) rfl rfl rfl) ?_
        refine wkd ?_
        refine awr_n rfl (oe rfl rfl rfl (ix_map eTStatementLine hx9) rfl) ?_
        refine wkd ?_
        obtain ⟨r10, hr10, H⟩ := ob H
        refine awr_n rfl (ca rfl rfl rfl (iFindBook_c hr10) ⟨by first | rfl | exact lm _, trivial⟩ rfl rfl rfl rfl) ?_
        refine wkd ?_
        obtain ⟨v11, Hj, H⟩ := ob H
        refine awr_join ⟨[(3, .v (.c (.w 0 r2.1.length))), (4, .v (.c (.w 1 r2.2.length))), (5, .v (.c (.w 2 r3.length))), (6, tI v6), (7, tI r8), (8, tI r10), (86, tB v11)], [(0, .row 36 3 (r2.1.map eTOperatorBook) true true), (1, .row 38 4 (r2.2.map eTRoamingAgreement) true true), (2, .row 32 3 (r3.map eTStatementLine) true true)], 3⟩ ?_ ?_
        · have H := Hj
          refine wkd ?_
          refine g2 rfl rfl rfl (fun h => ?_) (fun h => ?_)
          · have H := bt h H
            refine wkd ?_
            cases H
            exact weak_of ⟨wn rfl (by first | rfl | simp), rfl, wn rfl (by first | rfl | simp), rfl, wn rfl (by first | rfl | simp), rfl, rfl, rfl, rfl, rfl, rfl, rfl, rfl, rfl, trivial⟩ ⟨rfl, ⟨rfl, rfl⟩, rfl, ⟨rfl, rfl⟩, rfl, ⟨rfl, rfl⟩, trivial⟩
          · have H := bf h H
            refine wkd ?_
            refine g2 rfl rfl rfl (fun h => ?_) (fun h => ?_)
            · have H := bt h H
              refine wkd ?_
              cases H
              exact weak_of ⟨wn rfl (by first | rfl | simp), rfl, wn rfl (by first | rfl | simp), rfl, wn rfl (by first | rfl | simp), rfl, rfl, rfl, rfl, rfl, rfl, rfl, rfl, rfl, trivial⟩ ⟨rfl, ⟨rfl, rfl⟩, rfl, ⟨rfl, rfl⟩, rfl, ⟨rfl, rfl⟩, trivial⟩
            · have H := bf h H
              refine wkd ?_
              refine g2 rfl rfl rfl (fun h => ?_) (fun h => ?_)
              · have H := bt h H
                refine wkd ?_
                cases H
                exact weak_of ⟨wn rfl (by first | rfl | simp), rfl, wn rfl (by first | rfl | simp), rfl, wn rfl (by first | rfl | simp), rfl, rfl, rfl, rfl, rfl, rfl, rfl, rfl, rfl, trivial⟩ ⟨rfl, ⟨rfl, rfl⟩, rfl, ⟨rfl, rfl⟩, rfl, ⟨rfl, rfl⟩, trivial⟩
              · have H := bf h H
                refine wkd ?_
                refine g2 rfl rfl rfl (fun h => ?_) (fun h => ?_)
                · have H := bt h H
                  refine wkd ?_
                  cases H
                  exact weak_of ⟨wn rfl (by first | rfl | simp), rfl, wn rfl (by first | rfl | simp), rfl, wn rfl (by first | rfl | simp), rfl, rfl, rfl, rfl, rfl, rfl, rfl, rfl, rfl, trivial⟩ ⟨rfl, ⟨rfl, rfl⟩, rfl, ⟨rfl, rfl⟩, rfl, ⟨rfl, rfl⟩, trivial⟩
                · have H := bf h H
                  refine wkd ?_
                  obtain ⟨x12, hx12, H⟩ := ob H
                  refine awr_ng rfl rfl rfl rfl (xwT hx12 (by first | rfl | simp) rfl rfl rfl) ?_
                  refine wkd ?_
                  refine awr_ng rfl rfl rfl rfl (oea rfl rfl rfl (ix_map eTOperatorBook hx12) rfl) ?_
                  refine wkd ?_
                  obtain ⟨r13, hr13, H⟩ := ob H
                  refine awr_ng rfl rfl rfl rfl (ca rfl rfl rfl (iIsValidBook_c hr13) trivial rfl rfl rfl rfl) ?_
                  refine wkd ?_
                  refine g2 rfl rfl rfl (fun h => ?_) (fun h => ?_)
                  · have H := bt h H
                    refine wkd ?_
                    cases H
                    exact weak_of ⟨wn rfl (by first | rfl | simp), rfl, wn rfl (by first | rfl | simp), rfl, wn rfl (by first | rfl | simp), rfl, rfl, rfl, rfl, rfl, rfl, rfl, rfl, rfl, trivial⟩ ⟨rfl, ⟨rfl, rfl⟩, rfl, ⟨rfl, rfl⟩, rfl, ⟨rfl, rfl⟩, trivial⟩
                  · have H := bf h H
                    refine wkd ?_
                    obtain ⟨x14, hx14, H⟩ := ob H
                    refine awr_ng rfl rfl rfl rfl (xwT hx14 (by first | rfl | simp) rfl rfl rfl) ?_
                    refine wkd ?_
                    refine awr_ng rfl rfl rfl rfl (oea rfl rfl rfl (ix_map eTOperatorBook hx14) rfl) ?_
                    refine wkd ?_
                    obtain ⟨r15, hr15, H⟩ := ob H
                    refine awr_ng rfl rfl rfl rfl (ca rfl rfl rfl (iIsValidBook_c hr15) trivial rfl rfl rfl rfl) ?_
                    refine wkd ?_
                    cases H
                    exact weak_of ⟨wn rfl (by first | rfl | simp), rfl, wn rfl (by first | rfl | simp), rfl, wn rfl (by first | rfl | simp), rfl, rfl, rfl, rfl, rfl, rfl, rfl, rfl, rfl, trivial⟩ ⟨rfl, ⟨rfl, rfl⟩, rfl, ⟨rfl, rfl⟩, rfl, ⟨rfl, rfl⟩, trivial⟩
        refine wkd ?_
        refine awc_cond rfl (fun h => ?_) (fun h => ?_)
        · have H := bt h H
          refine wkd ?_
          obtain ⟨r0, Hd, rfl⟩ := dnE H
          refine iq_r (fun hq => ?_)
          have H := Hd.trans (congrArg some hq)
          refine wkd ?_
          cases H
          exact fin_ret (.cons (.tmp rfl) .nil) rfl rfl rfl
        · have H := bf h H
          refine wkd ?_
          obtain ⟨v31, Hj, H⟩ := ob H
          refine awc_jblk ⟨[(3, .v (.c (.w 0 r2.1.length))), (4, .v (.c (.w 1 r2.2.length))), (5, .v (.c (.w 2 r3.length))), (6, tI v6), (9, tB v31)], [(0, .row 36 3 (r2.1.map eTOperatorBook) true true), (1, .row 38 4 (r2.2.map eTRoamingAgreement) true true), (2, .row 32 3 (r3.map eTStatementLine) true true)], 3⟩ ?_ ?_
          · refine wkd ?_
            refine awc_iter (fun (q : Bool × Int) => ⟨[(3, .v (.c (.w 0 r2.1.length))), (4, .v (.c (.w 1 r2.2.length))), (5, .v (.c (.w 2 r3.length))), (6, tI v6), (7, tI r8), (8, tI r10), (9, tB q.1), (10, tI q.2)], [(0, .row 36 3 (r2.1.map eTOperatorBook) true true), (1, .row 38 4 (r2.2.map eTRoamingAgreement) true true), (2, .row 32 3 (r3.map eTStatementLine) true true)], 3⟩) Hj (weak_of ⟨wn rfl (by first | rfl | simp), rfl, wn rfl (by first | rfl | simp), rfl, wn rfl (by first | rfl | simp), rfl, rfl, rfl, rfl, rfl, rfl, rfl, rfl, rfl, rfl, rfl, trivial⟩ ⟨rfl, ⟨rfl, rfl⟩, rfl, ⟨rfl, rfl⟩, rfl, ⟨rfl, rfl⟩, trivial⟩) ?_
            rintro ⟨v16, v17⟩ o H
            try dsimp only
            refine wkd ?_
            refine awc_cond rfl (fun h => ?_) (fun h => ?_)
            · have H := bt h H
              refine wkd ?_
              obtain ⟨v32, Hj, H⟩ := ob H
              refine dr_join ⟨[(3, .v (.c (.w 0 r2.1.length))), (4, .v (.c (.w 1 r2.2.length))), (5, .v (.c (.w 2 r3.length))), (6, tI v6), (7, tI r8), (8, tI r10), (9, tB v32), (10, tI v17)], [(0, .row 36 3 (r2.1.map eTOperatorBook) true true), (1, .row 38 4 (r2.2.map eTRoamingAgreement) true true), (2, .row 32 3 (r3.map eTStatementLine) true true)], 3⟩ ?_ ?_
              · have H := Hj
                refine wkd ?_
                refine dg2 rfl rfl rfl (fun h => ?_) (fun h => ?_)
                · have H := bt h H
                  refine wkd ?_
                  cases H
                  exact weak_of ⟨wn rfl (by first | rfl | simp), rfl, wn rfl (by first | rfl | simp), rfl, wn rfl (by first | rfl | simp), rfl, rfl, rfl, rfl, rfl, rfl, rfl, rfl, rfl, rfl, rfl, trivial⟩ ⟨rfl, ⟨rfl, rfl⟩, rfl, ⟨rfl, rfl⟩, rfl, ⟨rfl, rfl⟩, trivial⟩
                · have H := bf h H
                  refine wkd ?_
                  obtain ⟨x33, hx33, H⟩ := ob H
                  refine dr_ng rfl rfl rfl rfl (xwT hx33 (by first | rfl | simp) rfl rfl rfl) ?_
                  refine wkd ?_
                  refine dr_ng rfl rfl rfl rfl (oe rfl rfl rfl (ix_map eTRoamingAgreement hx33) rfl) ?_
                  refine wkd ?_
                  obtain ⟨x34, hx34, H⟩ := ob H
                  refine dr_ng rfl rfl rfl rfl (xwT hx34 (by first | rfl | simp) rfl rfl rfl) ?_
                  refine wkd ?_
                  refine dr_ng rfl rfl rfl rfl (oe rfl rfl rfl (ix_map eTStatementLine hx34) rfl) ?_
                  refine wkd ?_
                  refine dg2 rfl rfl rfl (fun h => ?_) (fun h => ?_)
                  · have H := bt h H
                    refine wkd ?_
                    obtain ⟨x35, hx35, H⟩ := ob H
                    refine dr_ng rfl rfl rfl rfl (xwT hx35 (by first | rfl | simp) rfl rfl rfl) ?_
                    refine wkd ?_
                    refine dr_ng rfl rfl rfl rfl (oe rfl rfl rfl (ix_map eTRoamingAgreement hx35) rfl) ?_
                    refine wkd ?_
                    obtain ⟨x36, hx36, H⟩ := ob H
                    refine dr_ng rfl rfl rfl rfl (xwT hx36 (by first | rfl | simp) rfl rfl rfl) ?_
                    refine wkd ?_
                    refine dr_ng rfl rfl rfl rfl (oe rfl rfl rfl (ix_map eTStatementLine hx36) rfl) ?_
                    refine wkd ?_
                    refine dg2 rfl rfl rfl (fun h => ?_) (fun h => ?_)
                    · have H := bt h H
                      refine wkd ?_
                      obtain ⟨x37, hx37, H⟩ := ob H
                      refine dr_ng rfl rfl rfl rfl (xwT hx37 (by first | rfl | simp) rfl rfl rfl) ?_
                      refine wkd ?_
                      refine dr_ng rfl rfl rfl rfl (oe rfl rfl rfl (ix_map eTStatementLine hx37) rfl) ?_
                      refine wkd ?_
                      refine dg2 rfl rfl rfl (fun h => ?_) (fun h => ?_)
                      · have H := bt h H
                        refine wkd ?_
                        obtain ⟨x38, hx38, H⟩ := ob H
                        refine dr_ng rfl rfl rfl rfl (xwT hx38 (by first | rfl | simp) rfl rfl rfl) ?_
                        refine wkd ?_
                        refine dr_ng rfl rfl rfl rfl (oe rfl rfl rfl (ix_map eTStatementLine hx38) rfl) ?_
                        refine wkd ?_
                        obtain ⟨x39, hx39, H⟩ := ob H
                        refine dr_ng rfl rfl rfl rfl (xwT hx39 (by first | rfl | simp) rfl rfl rfl) ?_
                        refine wkd ?_
                        refine dr_ng rfl rfl rfl rfl (oe rfl rfl rfl (ix_map eTRoamingAgreement hx39) rfl) ?_
                        refine wkd ?_
                        refine dg2 rfl rfl rfl (fun h => ?_) (fun h => ?_)
                        · have H := bt h H
                          refine wkd ?_
                          obtain ⟨x40, hx40, H⟩ := ob H
                          refine dr_ng rfl rfl rfl rfl (xwT hx40 (by first | rfl | simp) rfl rfl rfl) ?_
                          refine wkd ?_
                          refine dr_ng rfl rfl rfl rfl (oe rfl rfl rfl (ix_map eTStatementLine hx40) rfl) ?_
                          refine wkd ?_
                          obtain ⟨x41, hx41, H⟩ := ob H
                          refine dr_ng rfl rfl rfl rfl (xwT hx41 (by first | rfl | simp) rfl rfl rfl) ?_
                          refine wkd ?_
                          refine dr_ng rfl rfl rfl rfl (oea rfl rfl rfl (ix_map eTRoamingAgreement hx41) rfl) ?_
                          refine wkd ?_
                          obtain ⟨x42, hx42, H⟩ := ob H
                          refine dr_ng rfl rfl rfl rfl (xwT hx42 (by first | rfl | simp) rfl rfl rfl) ?_
                          refine wkd ?_
                          refine dr_ng rfl rfl rfl rfl (oe rfl rfl rfl (ix_map eTOperatorBook hx42) rfl) ?_
                          refine wkd ?_
                          obtain ⟨x43, hx43, H⟩ := ob H
                          refine dr_ng rfl rfl rfl rfl (xwT hx43 (by first | rfl | simp) rfl rfl rfl) ?_
                          refine wkd ?_
                          refine dr_ng rfl rfl rfl rfl (oe rfl rfl rfl (ix_map eTOperatorBook hx43) rfl) ?_
                          refine wkd ?_
                          obtain ⟨r44, hr44, H⟩ := ob H
                          refine dr_ng rfl rfl rfl rfl (ca rfl rfl rfl (iAmountOwed_c hr44) trivial rfl rfl rfl rfl) ?_
                          refine wkd ?_
                          cases H
                          exact weak_of ⟨wn rfl (by first | rfl | simp), rfl, wn rfl (by first | rfl | simp), rfl, wn rfl (by first | rfl | simp), rfl, rfl, rfl, rfl, rfl, rfl, rfl, rfl, rfl, rfl, rfl, trivial⟩ ⟨rfl, ⟨rfl, rfl⟩, rfl, ⟨rfl, rfl⟩, rfl, ⟨rfl, rfl⟩, trivial⟩
                        · have H := bf h H
                          refine wkd ?_
                          cases H
                          exact weak_of ⟨wn rfl (by first | rfl | simp), rfl, wn rfl (by first | rfl | simp), rfl, wn rfl (by first | rfl | simp), rfl, rfl, rfl, rfl, rfl, rfl, rfl, rfl, rfl, rfl, rfl, trivial⟩ ⟨rfl, ⟨rfl, rfl⟩, rfl, ⟨rfl, rfl⟩, rfl, ⟨rfl, rfl⟩, trivial⟩
                      · have H := bf h H
                        refine wkd ?_
                        cases H
                        exact weak_of ⟨wn rfl (by first | rfl | simp), rfl, wn rfl (by first | rfl | simp), rfl, wn rfl (by first | rfl | simp), rfl, rfl, rfl, rfl, rfl, rfl, rfl, rfl, rfl, rfl, rfl, trivial⟩ ⟨rfl, ⟨rfl, rfl⟩, rfl, ⟨rfl, rfl⟩, rfl, ⟨rfl, rfl⟩, trivial⟩
                    · have H := bf h H
                      refine wkd ?_
                      cases H
                      exact weak_of ⟨wn rfl (by first | rfl | simp), rfl, wn rfl (by first | rfl | simp), rfl, wn rfl (by first | rfl | simp), rfl, rfl, rfl, rfl, rfl, rfl, rfl, rfl, rfl, rfl, rfl, trivial⟩ ⟨rfl, ⟨rfl, rfl⟩, rfl, ⟨rfl, rfl⟩, rfl, ⟨rfl, rfl⟩, trivial⟩
                  · have H := bf h H
                    refine wkd ?_
                    cases H
                    exact weak_of ⟨wn rfl (by first | rfl | simp), rfl, wn rfl (by first | rfl | simp), rfl, wn rfl (by first | rfl | simp), rfl, rfl, rfl, rfl, rfl, rfl, rfl, rfl, rfl, rfl, rfl, trivial⟩ ⟨rfl, ⟨rfl, rfl⟩, rfl, ⟨rfl, rfl⟩, rfl, ⟨rfl, rfl⟩, trivial⟩
              refine wkd ?_
              cases H
              refine iq_n ?_
              exact weak_of ⟨wn rfl (by first | rfl | simp), rfl, wn rfl (by first | rfl | simp), rfl, wn rfl (by first | rfl | simp), rfl, rfl, rfl, rfl, rfl, rfl, rfl, rfl, rfl, rfl, rfl, trivial⟩ ⟨rfl, ⟨rfl, rfl⟩, rfl, ⟨rfl, rfl⟩, rfl, ⟨rfl, rfl⟩, trivial⟩
            · have H := bf h H
              refine wkd ?_
              cases H
              refine iq_e (fun hq => ?_)
              cases hq
              refine wkd ?_
              exact weak_of ⟨wn rfl (by first | rfl | simp), rfl, wn rfl (by first | rfl | simp), rfl, wn rfl (by first | rfl | simp), rfl, rfl, rfl, rfl, rfl, trivial⟩ ⟨rfl, ⟨rfl, rfl⟩, rfl, ⟨rfl, rfl⟩, rfl, ⟨rfl, rfl⟩, trivial⟩
          refine wkd ?_
          refine awc_cond rfl (fun h => ?_) (fun h => ?_)
          · have H := bt h H
            refine wkd ?_
            obtain ⟨r0, Hd, rfl⟩ := dnE H
            refine iq_r (fun hq => ?_)
            have H := Hd.trans (congrArg some hq)
            refine wkd ?_
            cases H
            exact fin_ret (.cons (.tmp rfl) .nil) rfl rfl rfl
          · have H := bf h H
            refine wkd ?_
            cases H
            refine iq_n ?_
            exact weak_of ⟨wn rfl (by first | rfl | simp), rfl, wn rfl (by first | rfl | simp), rfl, wn rfl (by first | rfl | simp), rfl, rfl, rfl, trivial⟩ ⟨rfl, ⟨rfl, rfl⟩, rfl, ⟨rfl, rfl⟩, rfl, ⟨rfl, rfl⟩, trivial⟩
      · have H := bf h H
        refine wkd ?_
        obtain ⟨r0, Hd, rfl⟩ := dnE H
        refine iq_e (fun hq => ?_)
        have H := Hd.trans (congrArg some hq)
        refine wkd ?_
        obtain ⟨r45, hr45, H⟩ := ob H
        refine awr_n rfl (ca rfl rfl rfl (iFormatStatement_c hr45) ⟨by first | rfl | exact lm _, trivial⟩ rfl rfl rfl rfl) ?_
        refine wkd ?_
        cases H
        exact fin_ret (.cons (.tmp rfl) .nil) rfl rfl rfl
end Go.AM
