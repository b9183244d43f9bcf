/-
  Own text: a part of the abstract machine for this seat (Oz). No statement is proved here.
-/
import Derived.Test.YtlpclccdbmoemaaGreatNbg
import Derived.Test.YtlpclccdbmoemaaGreatNbs
import Derived.Test.YtlpclccdbmoemaaGreatAmZb
import Derived.Test.YtlpclccdbmoemaaGreatAmQ
import Derived.Test.YtlpclccdbmoemaaGreatAmW
set_option linter.unusedVariables false
namespace Go.AM
open Go.Proofs
attribute [local irreducible] AWN NS AWO AWR AWC DR Weak iterQ
set_option maxRecDepth 100000
set_option maxHeartbeats 4000000
def lbig (a0 : List Int) : Option Bool :=
  some (ltB 1048576 ((a0.length : Nat) : Int))
theorem lbig_c {a0 : List Int} {r : Bool} (H : lbig a0 = some r) : Fn Tryz.prog 4 [aL (a0.map eU8)] [.c (.d (.b r))] := by
  refine fn_in Tryz.func4 rfl (by kernel_rfl) Tryz.ntmps4 rfl rfl rfl ?_
  refine wk ?_
  cases H
  exact fin_ret (.cons (.tmp rfl) .nil) rfl rfl rfl
end Go.AM
set_option linter.unusedVariables false
namespace Go.AM
open Go.Proofs
attribute [local irreducible] AWN NS AWO AWR AWC DR Weak iterQ
set_option maxRecDepth 100000
set_option maxHeartbeats 4000000
def lFnNewNetworks_L1 (r2 : TCellMap × List TSubscriberRecord × TSubscription × Int) (r3 : TNetwork) : Int → Option (Step (Int) (Bool))
  | v11 => bif ltB v11 ((r2.2.1.length : Nat) : Int) then (Option.bind (ix r3.Devices v11) fun x12 => Option.bind (bif !eqB x12.State 0 then (some true) else (Option.bind (ix r3.Devices v11) fun x14 => Option.bind (ix r2.2.1 v11) fun x15 => bif !(eqB x14.Card.ID.Network x15.ID.Network && (eqB x14.Card.ID.Number x15.ID.Number && true)) then (some true) else (Option.bind (ix r3.Devices v11) fun x16 => Option.bind (ix r3.Sessions v11) fun x17 => Option.bind (iInSync x16.Card x17.Record) fun r18 => bif !r18 then (some true) else (Option.bind (ix r3.Accounts v11) fun x19 => some (!eqB x19.Spent 0))))) fun (v13 : Bool) => bif v13 then (dn (some false)) else (some (.next (WR (v11 + 1))))) else (dn (some true))
def lFnNewNetworks (a0 : List Int) : Option Bool :=
  Option.bind (lbig a0) fun r1 => bif r1 then (some true) else (Option.bind (sDrawNewNetwork a0) fun r2 => Option.bind (iNewNetwork r2.1 r2.2.1 r2.2.2.1 r2.2.2.2) fun r3 => Option.bind (sNewNetwork r2.1 r2.2.1 r2.2.2.1 r2.2.2.2) fun r4 => Option.bind (sIsValidNetwork (⟨r4.Map, r4.Devices, r4.Sessions, r4.Accounts, [], r4.DownCells, r4.Core, r4.Now, r4.Lost⟩ : TNetwork)) fun r5 => bif !r5 then (Option.bind (bif eqB ((r3.Devices.length : Nat) : Int) 0 then (bif eqB ((r3.Map.Cells.length : Nat) : Int) 0 then (Option.bind (iIsValidNetwork (⟨r3.Map, r3.Devices, r3.Sessions, r3.Accounts, [], r3.DownCells, r3.Core, r3.Now, r3.Lost⟩ : TNetwork)) fun r7 => some (!r7)) else (some false)) else (some false)) fun (v6 : Bool) => some v6) else (Option.bind (bif !eqB ((r3.Devices.length : Nat) : Int) ((r2.2.1.length : Nat) : Int) then (some true) else (Option.bind (iIsValidNetwork (⟨r3.Map, r3.Devices, r3.Sessions, r3.Accounts, [], r3.DownCells, r3.Core, r3.Now, r3.Lost⟩ : TNetwork)) fun r9 => bif !r9 then (some true) else (Option.bind (sAudit (⟨r3.Map, r3.Devices, r3.Sessions, r3.Accounts, [], r3.DownCells, r3.Core, r3.Now, r3.Lost⟩ : TNetwork)) fun r10 => bif !r10 then (some true) else (some (!eqB 0 0))))) fun (v8 : Bool) => bif v8 then (some false) else (iter (lFnNewNetworks_L1 r2 r3) FU 0)))
theorem lFnNewNetworks_c {a0 : List Int} {r : Bool} (H : lFnNewNetworks a0 = some r) : Fn Tryz.prog 3 [aL (a0.map eU8)] [.c (.d (.b r))] := by
  refine fn_in Tryz.func3 rfl (by kernel_rfl) Tryz.ntmps3 rfl rfl rfl ?_
  refine wkd ?_
  obtain ⟨r1, hr1, H⟩ := ob H
  refine awr_n rfl (ca rfl rfl rfl (lbig_c hr1) trivial rfl rfl rfl rfl) ?_
  refine wkd ?_
  refine awc_cond rfl (fun h => ?_) (fun h => ?_)
  · have H := bt h H
    refine wkd ?_
    cases H
    exact fin_ret (.cons (.tmp rfl) .nil) rfl rfl rfl
  · have H := bf h H
    refine wkd ?_
    obtain ⟨r2, hr2, H⟩ := ob H
    refine awr_step rfl (cwv [] [(210, 0), (211, 1)] 2 (sDrawNewNetwork_c hr2) rfl rfl rfl rfl rfl rfl rfl rfl rfl rfl rfl rfl rfl rfl) ?_
    refine wkd ?_
    obtain ⟨r3, hr3, H⟩ := ob H
    refine awr_weak (weak_frzN 0 rfl rfl rfl rfl (by repeat (first | exact trivial | refine ⟨by first | rfl | simp, ?_⟩)) (by repeat (first | exact trivial | refine ⟨by first | rfl | simp, ?_⟩))) ?_
    refine awr_weak (weak_frz (o := 1) rfl rfl) ?_
    refine awr_weak (weak_cast (k := 19) rfl rfl ⟨by first | rfl | simp, trivial⟩) ?_
    refine awr_step rfl (cwv [] [(210, 4), (211, 5), (212, 6)] 7 (iNewNetwork_c hr3) rfl rfl rfl rfl rfl rfl rfl rfl rfl rfl rfl rfl rfl rfl) ?_
    refine wkd ?_
    obtain ⟨r4, hr4, H⟩ := ob H
    refine awr_weak (weak_cast (k := 24) rfl rfl ⟨by first | rfl | simp, trivial⟩) ?_
    refine awr_step rfl (cwv [] [(210, 8), (211, 9), (212, 10), (213, 11)] 12 (sNewNetwork_c hr4) rfl rfl rfl rfl rfl rfl rfl rfl rfl rfl rfl rfl rfl rfl) ?_
    refine wkd ?_
    obtain ⟨r5, hr5, H⟩ := ob H
    refine awr_n rfl (ca rfl rfl rfl (sIsValidNetwork_c hr5) ⟨by first | rfl | exact lm _, by first | rfl | exact lm _, by first | rfl | exact lm _, by first | rfl | exact lm _, trivial⟩ rfl rfl rfl rfl) ?_
    refine wkd ?_
    refine awc_cond rfl (fun h => ?_) (fun h => ?_)
    · have H := bt h H
      refine wkd ?_
      obtain ⟨v6, Hj, H⟩ := ob H
      refine awr_join ⟨[(2, tB v6)], [], 0⟩ ?_ ?_
      · have H := Hj
        refine wkd ?_
        refine g2 rfl rfl rfl (fun h => ?_) (fun h => ?_)
        · have H := bt h H
          refine wkd ?_
          refine g2 rfl rfl rfl (fun h => ?_) (fun h => ?_)
          · have H := bt h H
            refine wkd ?_
            obtain ⟨r7, hr7, H⟩ := ob H
            refine awr_ng rfl rfl rfl rfl (ca rfl rfl rfl (iIsValidNetwork_c hr7) ⟨by first | rfl | exact lm _, by first | rfl | exact lm _, by first | rfl | exact lm _, trivial⟩ rfl rfl rfl rfl) ?_
            refine wkd ?_
            cases H
            exact weak_of ⟨rfl, rfl, trivial⟩ trivial
          · have H := bf h H
            refine wkd ?_
            cases H
            exact weak_of ⟨rfl, rfl, trivial⟩ trivial
        · have H := bf h H
          refine wkd ?_
          cases H
          exact weak_of ⟨rfl, rfl, trivial⟩ trivial
      refine wkd ?_
      cases H
      exact fin_ret (.cons (.tmp rfl) .nil) rfl rfl rfl
    · have H := bf h H
      refine wkd ?_
      obtain ⟨v8, Hj, H⟩ := ob H
      refine awr_join ⟨[(4, .v (.c (.w 1 r2.2.1.length))), (7, .v (.c (.p 7 0))), (67, tB v8)], [(1, .row 54 4 (r2.2.1.map eTSubscriberRecord) true false), (4, .rown 52 14 (r3.Devices.map eTDevice) true), (5, .rown 65 30 (r3.Sessions.map eTSession) true), (6, .rown 68 4 (r3.Accounts.map eTAccount) true), (7, .var 40 [.d true (.l (r3.Map.Cells.map eTCell)), .wn 4 r3.Devices.length, .wn 5 r3.Sessions.length, .wn 6 r3.Accounts.length, .nil, .d false (.i .i64 r3.DownCells), .d false (.i .i64 r3.Core.Size), .d false (.i .i64 r3.Core.UpMask), .d false (.i .i64 r3.Now), .d false (.i .i64 r3.Lost)])], 8⟩ ?_ ?_
      · have H := Hj
        refine wkd ?_
        refine g2 rfl rfl rfl (fun h => ?_) (fun h => ?_)
        · have H := bt h H
          refine wkd ?_
          cases H
          exact weak_of ⟨wn rfl (by first | rfl | simp), rfl, rfl, rfl, rfl, rfl, trivial⟩ ⟨rfl, ⟨rfl, rfl⟩, rfl, ⟨rfl, rfl⟩, rfl, ⟨rfl, rfl⟩, rfl, ⟨rfl, rfl⟩, rfl, ⟨rfl, rfl⟩, trivial⟩
        · have H := bf h H
          refine wkd ?_
          obtain ⟨r9, hr9, H⟩ := ob H
          refine awr_ng rfl rfl rfl rfl (ca rfl rfl rfl (iIsValidNetwork_c hr9) ⟨by first | rfl | exact lm _, by first | rfl | exact lm _, by first | rfl | exact lm _, trivial⟩ rfl rfl rfl rfl) ?_
          refine wkd ?_
          refine g2 rfl rfl rfl (fun h => ?_) (fun h => ?_)
          · have H := bt h H
            refine wkd ?_
            cases H
            exact weak_of ⟨wn rfl (by first | rfl | simp), rfl, rfl, rfl, rfl, rfl, trivial⟩ ⟨rfl, ⟨rfl, rfl⟩, rfl, ⟨rfl, rfl⟩, rfl, ⟨rfl, rfl⟩, rfl, ⟨rfl, rfl⟩, rfl, ⟨rfl, rfl⟩, trivial⟩
          · have H := bf h H
            refine wkd ?_
            obtain ⟨r10, hr10, H⟩ := ob H
            refine awr_ng rfl rfl rfl rfl (ca rfl rfl rfl (sAudit_c hr10) ⟨by first | rfl | exact lm _, by first | rfl | exact lm _, by first | rfl | exact lm _, trivial⟩ rfl rfl rfl rfl) ?_
            refine wkd ?_
            refine g2 rfl rfl rfl (fun h => ?_) (fun h => ?_)
            · have H := bt h H
              refine wkd ?_
              cases H
              exact weak_of ⟨wn rfl (by first | rfl | simp), rfl, rfl, rfl, rfl, rfl, trivial⟩ ⟨rfl, ⟨rfl, rfl⟩, rfl, ⟨rfl, rfl⟩, rfl, ⟨rfl, rfl⟩, rfl, ⟨rfl, rfl⟩, rfl, ⟨rfl, rfl⟩, trivial⟩
            · have H := bf h H
              refine wkd ?_
              cases H
              exact weak_of ⟨wn rfl (by first | rfl | simp), rfl, rfl, rfl, rfl, rfl, trivial⟩ ⟨rfl, ⟨rfl, rfl⟩, rfl, ⟨rfl, rfl⟩, rfl, ⟨rfl, rfl⟩, rfl, ⟨rfl, rfl⟩, rfl, ⟨rfl, rfl⟩, trivial⟩
      refine wkd ?_
      refine awc_cond rfl (fun h => ?_) (fun h => ?_)
      · have H := bt h H
        refine wkd ?_
        cases H
        exact fin_ret (.cons (.tmp rfl) .nil) rfl rfl rfl
      · have H := bf h H
        refine wkd ?_
        refine awc_iter (fun (q : Int) => ⟨[(4, .v (.c (.w 1 r2.2.1.length))), (7, .v (.c (.p 7 0))), (8, tI q)], [(1, .row 54 4 (r2.2.1.map eTSubscriberRecord) true false), (4, .rown 52 14 (r3.Devices.map eTDevice) true), (5, .rown 65 30 (r3.Sessions.map eTSession) true), (6, .rown 68 4 (r3.Accounts.map eTAccount) true), (7, .var 40 [.d true (.l (r3.Map.Cells.map eTCell)), .wn 4 r3.Devices.length, .wn 5 r3.Sessions.length, .wn 6 r3.Accounts.length, .nil, .d false (.i .i64 r3.DownCells), .d false (.i .i64 r3.Core.Size), .d false (.i .i64 r3.Core.UpMask), .d false (.i .i64 r3.Now), .d false (.i .i64 r3.Lost)])], 8⟩) H (weak_of ⟨wn rfl (by first | rfl | simp), rfl, rfl, rfl, rfl, rfl, trivial⟩ ⟨rfl, ⟨rfl, rfl⟩, rfl, ⟨rfl, rfl⟩, rfl, ⟨rfl, rfl⟩, rfl, ⟨rfl, rfl⟩, rfl, ⟨rfl, rfl⟩, trivial⟩) ?_
        rintro v11 o H
        try dsimp only
        refine wkd ?_
        refine awc_cond rfl (fun h => ?_) (fun h => ?_)
        · have H := bt h H
          refine wkd ?_
          obtain ⟨x12, hx12, H⟩ := ob H
          refine dr_n rfl (xwnT hx12 (by first | rfl | simp) rfl rfl rfl) ?_
          refine wkd ?_
          refine dr_n rfl (oen rfl rfl rfl (ix_map eTDevice hx12) rfl) ?_
          refine wkd ?_
          obtain ⟨v13, Hj, H⟩ := ob H
          refine dr_join ⟨[(4, .v (.c (.w 1 r2.2.1.length))), (7, .v (.c (.p 7 0))), (8, tI v11), (120, tB v13)], [(1, .row 54 4 (r2.2.1.map eTSubscriberRecord) true false), (4, .rown 52 14 (r3.Devices.map eTDevice) true), (5, .rown 65 30 (r3.Sessions.map eTSession) true), (6, .rown 68 4 (r3.Accounts.map eTAccount) true), (7, .var 40 [.d true (.l (r3.Map.Cells.map eTCell)), .wn 4 r3.Devices.length, .wn 5 r3.Sessions.length, .wn 6 r3.Accounts.length, .nil, .d false (.i .i64 r3.DownCells), .d false (.i .i64 r3.Core.Size), .d false (.i .i64 r3.Core.UpMask), .d false (.i .i64 r3.Now), .d false (.i .i64 r3.Lost)])], 8⟩ ?_ ?_
          · have H := Hj
            refine wkd ?_
            refine dg2 rfl rfl rfl (fun h => ?_) (fun h => ?_)
            · have H := bt h H
              refine wkd ?_
              cases H
              exact weak_of ⟨wn rfl (by first | rfl | simp), rfl, rfl, rfl, rfl, rfl, rfl, rfl, trivial⟩ ⟨rfl, ⟨rfl, rfl⟩, rfl, ⟨rfl, rfl⟩, rfl, ⟨rfl, rfl⟩, rfl, ⟨rfl, rfl⟩, rfl, ⟨rfl, rfl⟩, trivial⟩
            · have H := bf h H
              refine wkd ?_
              obtain ⟨x14, hx14, H⟩ := ob H
              refine dr_ng rfl rfl rfl rfl (xwnT hx14 (by first | rfl | simp) rfl rfl rfl) ?_
              refine wkd ?_
              refine dr_ng rfl rfl rfl rfl (oean rfl rfl rfl (ix_map eTDevice hx14) rfl) ?_
              refine wkd ?_
              obtain ⟨x15, hx15, H⟩ := ob H
              refine dr_ng rfl rfl rfl rfl (xwT hx15 (by first | rfl | simp) rfl rfl rfl) ?_
              refine wkd ?_
              refine dr_ng rfl rfl rfl rfl (oea rfl rfl rfl (ix_map eTSubscriberRecord hx15) rfl) ?_
              refine wkd ?_
              refine dg2 rfl rfl rfl (fun h => ?_) (fun h => ?_)
              · have H := bt h H
                refine wkd ?_
                cases H
                exact weak_of ⟨wn rfl (by first | rfl | simp), rfl, rfl, rfl, rfl, rfl, rfl, rfl, trivial⟩ ⟨rfl, ⟨rfl, rfl⟩, rfl, ⟨rfl, rfl⟩, rfl, ⟨rfl, rfl⟩, rfl, ⟨rfl, rfl⟩, rfl, ⟨rfl, rfl⟩, trivial⟩
              · have H := bf h H
                refine wkd ?_
                obtain ⟨x16, hx16, H⟩ := ob H
                refine dr_ng rfl rfl rfl rfl (xwnT hx16 (by first | rfl | simp) rfl rfl rfl) ?_
                refine wkd ?_
                refine dr_ng rfl rfl rfl rfl (oean rfl rfl rfl (ix_map eTDevice hx16) rfl) ?_
                refine wkd ?_
                obtain ⟨x17, hx17, H⟩ := ob H
                refine dr_ng rfl rfl rfl rfl (xwnT hx17 (by first | rfl | simp) rfl rfl rfl) ?_
                refine wkd ?_
                refine dr_ng rfl rfl rfl rfl (oean rfl rfl rfl (ix_map eTSession hx17) rfl) ?_
                refine wkd ?_
                obtain ⟨r18, hr18, H⟩ := ob H
                refine dr_ng rfl rfl rfl rfl (ca rfl rfl rfl (iInSync_c hr18) trivial rfl rfl rfl rfl) ?_
                refine wkd ?_
                refine dg2 rfl rfl rfl (fun h => ?_) (fun h => ?_)
                · have H := bt h H
                  refine wkd ?_
                  cases H
                  exact weak_of ⟨wn rfl (by first | rfl | simp), rfl, rfl, rfl, rfl, rfl, rfl, rfl, trivial⟩ ⟨rfl, ⟨rfl, rfl⟩, rfl, ⟨rfl, rfl⟩, rfl, ⟨rfl, rfl⟩, rfl, ⟨rfl, rfl⟩, rfl, ⟨rfl, rfl⟩, trivial⟩
                · have H := bf h H
                  refine wkd ?_
                  obtain ⟨x19, hx19, H⟩ := ob H
                  refine dr_ng rfl rfl rfl rfl (xwnT hx19 (by first | rfl | simp) rfl rfl rfl) ?_
                  refine wkd ?_
                  refine dr_ng rfl rfl rfl rfl (oen rfl rfl rfl (ix_map eTAccount hx19) rfl) ?_
                  refine wkd ?_
                  cases H
                  exact weak_of ⟨wn rfl (by first | rfl | simp), rfl, rfl, rfl, rfl, rfl, rfl, rfl, trivial⟩ ⟨rfl, ⟨rfl, rfl⟩, rfl, ⟨rfl, rfl⟩, rfl, ⟨rfl, rfl⟩, rfl, ⟨rfl, rfl⟩, rfl, ⟨rfl, rfl⟩, trivial⟩
          refine wkd ?_
          refine awc_cond rfl (fun h => ?_) (fun h => ?_)
          · have H := bt h H
            refine wkd ?_
            obtain ⟨r0, Hd, rfl⟩ := dnE H
            refine iq_r (fun hq => ?_)
            have H := Hd.trans (congrArg some hq)
            refine wkd ?_
            cases H
            exact fin_ret (.cons (.tmp rfl) .nil) rfl rfl rfl
          · have H := bf h H
            refine wkd ?_
            cases H
            refine iq_n ?_
            exact weak_of ⟨wn rfl (by first | rfl | simp), rfl, rfl, rfl, rfl, rfl, trivial⟩ ⟨rfl, ⟨rfl, rfl⟩, rfl, ⟨rfl, rfl⟩, rfl, ⟨rfl, rfl⟩, rfl, ⟨rfl, rfl⟩, rfl, ⟨rfl, rfl⟩, trivial⟩
        · have H := bf h H
          refine wkd ?_
          obtain ⟨r0, Hd, rfl⟩ := dnE H
          refine iq_e (fun hq => ?_)
          have H := Hd.trans (congrArg some hq)
          refine wkd ?_
          cases H
          exact fin_ret (.cons (.tmp rfl) .nil) rfl rfl rfl
end Go.AM
set_option linter.unusedVariables false
namespace Go.AM

theorem FU_big : 9223372036854775808 ≤ FU := by unfold FU; omega
/-- Over the elements of a list, with a way out. -/
def forL {α σ ρ : Type} (body : σ → α → Option (Step σ ρ)) (fin : σ → Option ρ) : List α → σ → Option ρ
  | [], s => fin s
  | x :: xs, s => match body s x with
    | some (.next s') => forL body fin xs s'
    | some (.done r) => some r
    | none => none
def stepM {σ τ ρ : Type} (f : σ → τ) : Option (Step σ ρ) → Option (Step τ ρ)
  | some (.next s) => some (.next (f s))
  | some (.done r) => some (.done r)
  | none => none
@[simp] theorem stepM_next {σ τ ρ : Type} (f : σ → τ) (s : σ) : stepM (ρ := ρ) f (some (.next s)) = some (.next (f s)) := rfl
@[simp] theorem stepM_done {σ τ ρ : Type} (f : σ → τ) (r : ρ) : stepM f (some (.done r)) = some (.done r) := rfl
@[simp] theorem stepM_none {σ τ ρ : Type} (f : σ → τ) : stepM (ρ := ρ) f none = none := rfl
@[simp] theorem stepM_cond {σ τ ρ : Type} (f : σ → τ) (b : Bool) (x y : Option (Step σ ρ)) : stepM f (bif b then x else y) = bif b then stepM f x else stepM f y := by cases b <;> rfl
@[simp] theorem stepM_bind {α σ τ ρ : Type} (f : σ → τ) (o : Option α) (k : α → Option (Step σ ρ)) : stepM f (Option.bind o k) = Option.bind o (fun a => stepM f (k a)) := by cases o <;> rfl
@[simp] theorem dn_some {σ ρ : Type} (r : ρ) : dn (σ := σ) (some r) = some (.done r) := rfl
@[simp] theorem dn_none {σ ρ : Type} : dn (σ := σ) (ρ := ρ) none = none := rfl
theorem iter_for {α σ τ ρ : Type} {step : τ → Option (Step τ ρ)} (xs : List α) (mk : Nat → σ → τ) (body : σ → α → Option (Step σ ρ)) (fin : σ → Option ρ) (hl : xs.length ≤ 9223372036854775806)
    (hs : ∀ (k : Nat) (x : α) (s : σ), xs[k]? = some x → k < xs.length → step (mk k s) = stepM (mk (k + 1)) (body s x))
    (he : ∀ s, step (mk xs.length s) = dn (fin s)) (s0 : σ) : iter step FU (mk 0 s0) = forL body fin xs s0 := by
  have key : ∀ (m n : Nat) (s : σ) (k : Nat), m = xs.length - k → k ≤ xs.length → m < n → iter step n (mk k s) = forL body fin (xs.drop k) s := by
    intro m
    induction m with
    | zero =>
      intro n s k hm hk hn
      cases n with
      | zero => omega
      | succ n =>
        have : k = xs.length := by omega
        subst this
        rw [List.drop_length, forL, iter, he]
        cases fin s <;> rfl
    | succ m ih =>
      intro n s k hm hk hn
      cases n with
      | zero => omega
      | succ n =>
        have hlt : k < xs.length := by omega
        rw [List.drop_eq_getElem_cons hlt, forL, iter, hs k xs[k] s (List.getElem?_eq_getElem hlt) hlt]
        cases hb : body s xs[k] with
        | none => rfl
        | some o =>
          cases o with
          | done r => rfl
          | next s' => exact ih n s' (k + 1) (by omega) (by omega) (by omega)
  have := key (xs.length - 0) FU s0 0 rfl (Nat.zero_le _) (by have := FU_big; omega)
  simpa using this
theorem ix_nat {α : Type} (xs : List α) (k : Nat) : ix xs (k : Int) = xs[k]? := by simp [ix, leB]
theorem WR_in {n : Int} (h : -9223372036854775808 ≤ n ∧ n ≤ 9223372036854775807) : WR n = n := wrap_in h
theorem WR_succ {k : Nat} (h : k < 9223372036854775807) : WR ((k : Int) + 1) = ((k + 1 : Nat) : Int) := by rw [WR_in (by omega)]; omega
theorem ltB_lt {a b : Nat} (h : a < b) : ltB (a : Int) (b : Int) = true := by simp [ltB, h]
theorem ltB_self (a : Int) : ltB a a = false := by simp [ltB]
theorem eqB_refl (a : Int) : eqB a a = true := by simp [eqB]
/-- A copy, element by element. -/
theorem iter_copy {α β : Type} {step : Int × List β → Option (Step (Int × List β) (List β))} (f : α → β) (z : β) (xs : List α) (hl : xs.length ≤ 9223372036854775806)
    (hs : ∀ (k : Nat) (x : α) (v : List β), xs[k]? = some x → v.length = xs.length → step ((k : Int), v) = some (.next (((k + 1 : Nat) : Int), v.set k (f x))))
    (he : ∀ v, step ((xs.length : Nat) , v) = some (.done v)) : iter step FU (0, List.replicate xs.length z) = some (xs.map f) := by
  have key : ∀ (m n : Nat) (k : Nat), m = xs.length - k → k ≤ xs.length → m < n → iter step n ((k : Int), (xs.take k).map f ++ List.replicate (xs.length - k) z) = some (xs.map f) := by
    intro m
    induction m with
    | zero =>
      intro n k hm hk hn
      cases n with
      | zero => omega
      | succ n =>
        have : k = xs.length := by omega
        subst this
        rw [iter, he]
        simp
    | succ m ih =>
      intro n k hm hk hn
      cases n with
      | zero => omega
      | succ n =>
        have hlt : k < xs.length := by omega
        rw [iter, hs k xs[k] _ (List.getElem?_eq_getElem hlt) (by simp; omega)]
        have e : ((xs.take k).map f ++ List.replicate (xs.length - k) z).set k (f xs[k]) = (xs.take (k + 1)).map f ++ List.replicate (xs.length - (k + 1)) z := by
          apply List.ext_getElem?
          intro j
          rw [List.getElem?_set]
          by_cases hj : k = j
          · subst hj
            rw [if_pos rfl, if_pos (by simp; omega), List.getElem?_append_left (by simp; omega)]
            simp [hlt]
          · rw [if_neg hj]
            by_cases h2 : j < k
            · rw [List.getElem?_append_left (by simp; omega), List.getElem?_append_left (by simp; omega)]
              simp [h2, show j < k + 1 by omega]
            · rw [List.getElem?_append_right (by simp; omega), List.getElem?_append_right (by simp; omega)]
              simp only [List.getElem?_replicate, List.length_map, List.length_take, Nat.min_eq_left (Nat.le_of_lt hlt), Nat.min_eq_left (show k + 1 ≤ xs.length from hlt)]
              by_cases h3 : j < xs.length
              · rw [if_pos (by omega), if_pos (by omega)]
              · rw [if_neg (by omega), if_neg (by omega)]
        show iter step n (((k + 1 : Nat) : Int), _) = _
        rw [e]
        exact ih n (k + 1) (by omega) (by omega) (by omega)
  have := key (xs.length - 0) FU 0 rfl (Nat.zero_le _) (by have := FU_big; omega)
  simpa using this
end Go.AM
set_option linter.unusedVariables false
set_option linter.unusedSimpArgs false
namespace Go.AM
attribute [local simp] ltB_self eqB_refl ix_nat
def okL {α : Type} (ok : α → Prop) (xs : List α) : Prop := xs.length ≤ 1048576 ∧ ∀ x ∈ xs, ok x
def preL {α : Type} (pre : α → Prop) (xs : List α) : Prop := xs.length ≤ 9223372036854775807 ∧ ∀ x ∈ xs, pre x
/-- The marked list. -/
def marks {α : Type} (g : Int → α) (c : Int) : Nat → Int → List α
  | 0, _ => []
  | n + 1, k => g k :: marks g c n (k + c)
def okU8 (n : Int) : Prop := 0 ≤ n ∧ n ≤ 255
theorem wf_u8 {n : Int} (h : (Lit.int .u8 n).wf = true) : okU8 n := by
  simp [Lit.wf, IntKind.min, IntKind.max, IntKind.signed, IntKind.bits] at h
  exact ⟨by omega, by omega⟩
/-- The first place where p holds, or -1. -/
theorem find_rule {α : Type} {L : Int → Option (Step Int Int)} (xs : List α) (p : α → Bool) (hl : xs.length ≤ 9223372036854775806)
    (hs : ∀ (k : Nat) (x : α), xs[k]? = some x → k < xs.length → L (k : Int) = bif p x then some (.done (k : Int)) else some (.next ((k + 1 : Nat) : Int))) (he : L ((xs.length : Nat) : Int) = some (.done (-1))) :
    iter L FU 0 = some (idxF p 0 xs) := by
  have key : ∀ (m n : Nat) (k : Nat), m = xs.length - k → k ≤ xs.length → m < n → iter L n (k : Int) = some (idxF p k (xs.drop k)) := by
    intro m
    induction m with
    | zero =>
      intro n k hm hk hn
      cases n with
      | zero => omega
      | succ n =>
        have : k = xs.length := by omega
        subst this
        rw [iter, he, List.drop_length, idxF]
    | succ m ih =>
      intro n k hm hk hn
      cases n with
      | zero => omega
      | succ n =>
        have hlt : k < xs.length := by omega
        rw [iter, hs k xs[k] (List.getElem?_eq_getElem hlt) hlt, idx_drop hlt]
        cases p xs[k] with
        | true => rfl
        | false => exact ih n (k + 1) (by omega) (by omega) (by omega)
  have := key (xs.length - 0) FU 0 rfl (Nat.zero_le _) (by have := FU_big; omega)
  simpa using this
theorem idx_cases {α : Type} (p : α → Bool) : ∀ (xs : List α) (i : Nat), idxF p (i : Int) xs = -1 ∧ (∀ x ∈ xs, p x = false) ∨ ∃ j : Nat, idxF p (i : Int) xs = ((i + j : Nat) : Int) ∧ ∃ x, xs[j]? = some x ∧ p x = true ∧ ∀ y ∈ xs.take j, p y = false
  | [], i => .inl ⟨rfl, by simp⟩
  | x :: xs, i => by
    rw [idxF]
    cases hp : p x with
    | true => exact .inr ⟨0, by simp, x, rfl, hp, by simp⟩
    | false =>
      rcases idx_cases p xs (i + 1) with ⟨h1, h2⟩ | ⟨j, h1, y, h2, h3, h4⟩
      · exact .inl ⟨by simpa using h1, by simp [hp]; exact h2⟩
      · refine .inr ⟨j + 1, ?_, y, by simpa using h2, h3, by simp [hp]; exact h4⟩
        have : idxF p ((i : Int) + 1) xs = ((i + 1 + j : Nat) : Int) := by simpa using h1
        simp only [cond_false]
        rw [this]; omega
/-- Is there an element? -/
theorem any_rule {α : Type} {L : Int → Option (Step Int Bool)} (xs : List α) (p : α → Bool) (hl : xs.length ≤ 9223372036854775806)
    (hs : ∀ (k : Nat) (x : α), xs[k]? = some x → k < xs.length → L (k : Int) = bif p x then some (.done true) else some (.next ((k + 1 : Nat) : Int))) (he : L ((xs.length : Nat) : Int) = some (.done false)) :
    iter L FU 0 = some (xs.any p) := by
  have := iter_for (step := L) xs (fun k (_ : Unit) => (k : Int)) (fun _ x => bif p x then some (.done true) else some (.next ())) (fun _ => some false) hl
    (fun k x s hx hk => by rw [hs k x hx hk]; cases p x <;> rfl) (fun s => by rw [he]; rfl) ()
  refine Eq.trans (show iter L FU 0 = _ from this) ?_
  have key : ∀ xs : List α, forL (fun (_ : Unit) x => bif p x then some (Step.done true) else some (.next ())) (fun _ => some false) xs () = some (xs.any p) := by
    intro xs
    induction xs with
    | nil => rfl
    | cons x xs ih => rw [forL]; cases hp : p x <;> simp [hp, ih]
  exact key xs
/-- Are all so? -/
theorem all_rule {α : Type} {L : Int → Option (Step Int Bool)} (xs : List α) (p : α → Bool) (hl : xs.length ≤ 9223372036854775806)
    (hs : ∀ (k : Nat) (x : α), xs[k]? = some x → k < xs.length → L (k : Int) = bif p x then some (.next ((k + 1 : Nat) : Int)) else some (.done false)) (he : L ((xs.length : Nat) : Int) = some (.done true)) :
    iter L FU 0 = some (xs.all p) := by
  have := iter_for (step := L) xs (fun k (_ : Unit) => (k : Int)) (fun _ x => bif p x then some (.next ()) else some (.done false)) (fun _ => some true) hl
    (fun k x s hx hk => by rw [hs k x hx hk]; cases p x <;> rfl) (fun s => by rw [he]; rfl) ()
  refine Eq.trans (show iter L FU 0 = _ from this) ?_
  have key : ∀ xs : List α, forL (fun (_ : Unit) x => bif p x then some (.next ()) else some (Step.done false)) (fun _ => some true) xs () = some (xs.all p) := by
    intro xs
    induction xs with
    | nil => rfl
    | cons x xs ih => rw [forL]; cases hp : p x <;> simp [hp, ih]
  exact key xs
end Go.AM
set_option linter.unusedVariables false
namespace Go.AM
/-! marks of which only the number counts -/
/-- Over the elements, all must be so; then the answer is c. -/
theorem allK {α : Type} {L : Int → Option (Step Int Bool)} (xs : List α) (p : Nat → α → Bool) (c : Option Bool) (hl : xs.length ≤ 9223372036854775806)
    (hs : ∀ (k : Nat) (x : α), xs[k]? = some x → k < xs.length → L (k : Int) = bif p k x then some (.next ((k + 1 : Nat) : Int)) else some (.done false)) (he : L ((xs.length : Nat) : Int) = dn c) :
    iter L FU 0 = bif xs.zipIdx.all (fun y => p y.2 y.1) then c else some false := by
  have := iter_for (step := L) xs.zipIdx (fun k (_ : Unit) => (k : Int)) (fun _ y => bif p y.2 y.1 then some (.next ()) else some (.done false)) (fun _ => c) (by simpa using hl)
    (fun k y s hy hk => by
      have hk' : k < xs.length := by simpa using hk
      have : y = (xs[k], k) := by rw [List.getElem?_eq_getElem hk] at hy; simpa using hy.symm
      subst this
      rw [hs k xs[k] (List.getElem?_eq_getElem hk') hk']; cases p k xs[k] <;> rfl) (fun s => by rw [List.length_zipIdx, he]) ()
  refine Eq.trans (show iter L FU 0 = _ from this) ?_
  have key : ∀ ys : List (α × Nat), forL (fun (_ : Unit) y => bif p y.2 y.1 then some (.next ()) else some (Step.done false)) (fun _ => c) ys () = bif ys.all (fun y => p y.2 y.1) then c else some false := by
    intro ys
    induction ys with
    | nil => rfl
    | cons x xs ih => rw [forL]; cases hp : p x.2 x.1 <;> simp [hp, ih]
  exact key _
def inR (n a b : Int) : Bool := leB a n && leB n b
theorem inR_iff {n a b : Int} : inR n a b = true ↔ a ≤ n ∧ n ≤ b := by simp [inR, leB]
theorem WR_pred {n : Nat} (h : n ≤ 1048576) : WR ((n : Int) - 1) = (n : Int) - 1 := WR_in (by omega)
theorem ix_in {α : Type} {xs : List α} {i : Int} (h0 : 0 ≤ i) (h1 : i < xs.length) : ∃ x, x ∈ xs ∧ ix xs i = some x := by
  obtain ⟨k, rfl⟩ := Int.eq_ofNat_of_zero_le h0
  have hk : k < xs.length := by omega
  exact ⟨xs[k], List.getElem_mem hk, by rw [ix_nat, List.getElem?_eq_getElem hk]⟩
end Go.AM
set_option linter.unusedVariables false
namespace Go.AM
end Go.AM
set_option linter.unusedVariables false
set_option linter.unusedSimpArgs false
namespace Go.AM
/-! what a partial result is, if it is -/
def Wp {α : Type} (m : Option α) (Q : α → Prop) : Prop := match m with
  | some a => Q a
  | none => False
theorem Wp.ex {α : Type} {m : Option α} {Q : α → Prop} (h : Wp m Q) : ∃ a, m = some a ∧ Q a := by
  cases m with
  | none => exact h.elim
  | some a => exact ⟨a, rfl, h⟩
theorem Wp.of {α : Type} {m : Option α} {Q : α → Prop} {a : α} (h : m = some a) (q : Q a) : Wp m Q := by subst h; exact q
theorem Wp.some {α : Type} {a : α} {Q : α → Prop} (h : Q a) : Wp (some a) Q := h
theorem Wp.bind {α β : Type} {m : Option α} {k : α → Option β} {Q : β → Prop} (h : Wp m (fun a => Wp (k a) Q)) : Wp (Option.bind m k) Q := by
  cases m with
  | none => exact h.elim
  | some a => exact h
theorem Wp.mono {α : Type} {m : Option α} {P Q : α → Prop} (h : Wp m P) (k : ∀ a, P a → Q a) : Wp m Q := by
  cases m with
  | none => exact h.elim
  | some a => exact k a h
theorem Wp.call {α β : Type} {m : Option α} {k : α → Option β} {P : α → Prop} {Q : β → Prop} (h : Wp m P) (hk : ∀ a, P a → Wp (k a) Q) : Wp (Option.bind m k) Q := Wp.bind (h.mono hk)
theorem Wp.eq {α β : Type} {m : Option α} {k : α → Option β} {a : α} {Q : β → Prop} (h : m = .some a) (hk : Wp (k a) Q) : Wp (Option.bind m k) Q := by subst h; exact hk
theorem Wp.cond {α : Type} {b : Bool} {x y : Option α} {Q : α → Prop} (h1 : b = true → Wp x Q) (h0 : b = false → Wp y Q) : Wp (bif b then x else y) Q := by
  cases b
  · exact h0 rfl
  · exact h1 rfl
theorem Wp.ok {α : Type} {b : Bool} {x : Option α} {Q : α → Prop} (hb : b = true) (h : Wp x Q) : Wp (bif b then x else none) Q := by subst hb; exact h
theorem Wp.iter {σ ρ : Type} {step : σ → Option (Step σ ρ)} {Q : ρ → Prop} (I : σ → Prop) (μ : σ → Nat) (h : ∀ x, I x → Wp (step x) (fun s => match s with | .next x' => I x' ∧ μ x' < μ x | .done r => Q r)) :
    ∀ (n : Nat) (x : σ), I x → μ x < n → Wp (AM.iter step n x) Q
  | 0, _, _, h => by omega
  | n + 1, x, hI, hn => by
    obtain ⟨s, e, hs⟩ := (h x hI).ex
    rw [AM.iter, e]
    cases s with
    | next x' => exact Wp.iter I μ h n x' hs.1 (by have := hs.2; omega)
    | done r => exact hs
theorem Wp.iterF {σ ρ : Type} {step : σ → Option (Step σ ρ)} {Q : ρ → Prop} (I : σ → Prop) (μ : σ → Nat) {x : σ} (hI : I x) (hn : μ x ≤ 1000000000000) (h : ∀ x, I x → Wp (step x) (fun s => match s with | .next x' => I x' ∧ μ x' < μ x | .done r => Q r)) : Wp (AM.iter step FU x) Q :=
  Wp.iter I μ h FU x hI (by have := FU_big; omega)
theorem Wp.dn {σ ρ : Type} {m : Option ρ} {Q : Step σ ρ → Prop} (h : Wp m (fun r => Q (.done r))) : Wp (AM.dn m) Q := by
  cases m with
  | none => exact h.elim
  | some r => exact h
theorem Wp.ix {α β : Type} {xs : List α} {i : Int} {k : α → Option β} {Q : β → Prop} (h0 : 0 ≤ i) (h1 : i < xs.length) (hk : ∀ x, x ∈ xs → xs[i.toNat]? = .some x → Wp (k x) Q) : Wp (Option.bind (AM.ix xs i) k) Q := by
  have hl : i.toNat < xs.length := by omega
  have hx : xs[i.toNat]? = .some xs[i.toNat] := List.getElem?_eq_getElem hl
  refine Wp.eq (a := xs[i.toNat]) ?_ (hk _ (List.getElem_mem hl) hx)
  unfold AM.ix
  rw [show leB 0 i = true from by simp [leB, h0]]
  exact hx
theorem ltBt {a b : Int} (h : ltB a b = true) : a < b := ltB_t.1 h
theorem ltBf {a b : Int} (h : ltB a b = false) : b ≤ a := ltB_f.1 h
theorem leBt {a b : Int} (h : leB a b = true) : a ≤ b := leB_t.1 h
theorem apOk_in {b n : Nat} (h : n * b ≤ 140737488355328) (h' : n ≤ 9223372036854775807) : apOk b n = true := by simp [apOk, h, h']
end Go.AM
set_option linter.unusedVariables false
set_option linter.unusedSimpArgs false
namespace Go.AM
attribute [local simp] ltB_self eqB_refl ix_nat
def okTCell (a : TCell) : Prop := okL (fun _ => True) a.Neighbors
def okTCellMap (a : TCellMap) : Prop := okL okTCell a.Cells
def okTNumberedPacket (a : TNumberedPacket) : Prop := okL (fun _ => True) a.Data
def okTPayload (a : TPayload) : Prop := okL (fun _ => True) a.Data
def okTReceiveWindow (a : TReceiveWindow) : Prop := okL okTNumberedPacket a.Pending ∧ okL okTPayload a.Delivered
def okTDevice (a : TDevice) : Prop := okTReceiveWindow a.Receiver
def okTSubscription (a : TSubscription) : Prop := okL (fun _ => True) a.RoamingNetworks
def okTSendWindow (a : TSendWindow) : Prop := okL okTNumberedPacket a.Unacked
def okTSession (a : TSession) : Prop := okTSubscription a.Plan ∧ okL okTPayload a.Submitted ∧ okTSendWindow a.Window
def okTAccount (a : TAccount) : Prop := okL (fun _ => True) a.Reservations
def okTSecuredMessage (a : TSecuredMessage) : Prop := okL (fun _ => True) a.Data
def okTRadioPacket (a : TRadioPacket) : Prop := okTSecuredMessage a.Message
def okTFlight (a : TFlight) : Prop := okTRadioPacket a.Radio
def okTNetwork (a : TNetwork) : Prop := okTCellMap a.Map ∧ okL okTDevice a.Devices ∧ okL okTSession a.Sessions ∧ okL okTAccount a.Accounts ∧ okL okTFlight a.Flights
end Go.AM
set_option linter.unusedVariables false
set_option linter.unusedSimpArgs false
namespace Go.AM
open Go.Proofs
attribute [local simp] ltB_self eqB_refl ix_nat
/-- All elements, with their places. -/
def allI {α : Type} (p : Nat → α → Bool) (xs : List α) : Bool := xs.zipIdx.all (fun y => p y.2 y.1)
theorem allI_iff {α : Type} {p : Nat → α → Bool} {xs : List α} : allI p xs = true ↔ ∀ (k : Nat) (x : α), xs[k]? = some x → p k x = true := by
  unfold allI
  rw [List.all_eq_true]
  constructor
  · intro h k x hx
    exact h (x, k) (by rw [List.mem_zipIdx_iff_getElem?]; simpa using hx)
  · rintro h ⟨x, k⟩ hm
    rw [List.mem_zipIdx_iff_getElem?] at hm
    exact h k x (by simpa using hm)
theorem allI_congr {α : Type} {p q : Nat → α → Bool} {xs : List α} (h : ∀ (k : Nat) (x : α), xs[k]? = some x → p k x = q k x) : allI p xs = allI q xs := by
  rw [Bool.eq_iff_iff, allI_iff, allI_iff]
  constructor
  · intro g k x hx; rw [← h k x hx]; exact g k x hx
  · intro g k x hx; rw [h k x hx]; exact g k x hx
theorem allI_and {α : Type} {p q : Nat → α → Bool} {xs : List α} : (allI p xs && allI q xs) = allI (fun k x => p k x && q k x) xs := by
  rw [Bool.eq_iff_iff, Bool.and_eq_true, allI_iff, allI_iff, allI_iff]
  constructor
  · rintro ⟨h1, h2⟩ k x hx; simp [h1 k x hx, h2 k x hx]
  · intro h
    exact ⟨fun k x hx => by have := h k x hx; simp at this; exact this.1, fun k x hx => by have := h k x hx; simp at this; exact this.2⟩
theorem allI_all {α : Type} {p : α → Bool} {xs : List α} : allI (fun _ x => p x) xs = xs.all p := by
  rw [Bool.eq_iff_iff, allI_iff, List.all_eq_true]
  constructor
  · intro h x hx
    obtain ⟨k, hk, rfl⟩ := List.getElem_of_mem hx
    exact h k _ (List.getElem?_eq_getElem hk)
  · intro h k x hx; exact h x (List.mem_of_getElem? hx)
theorem allI_rule {α : Type} {L : Int → Option (Step Int Bool)} (xs : List α) (p : Nat → α → Bool) (c : Option Bool) (hl : xs.length ≤ 9223372036854775806)
    (hs : ∀ (k : Nat) (x : α), xs[k]? = some x → k < xs.length → L (k : Int) = bif p k x then some (.next ((k + 1 : Nat) : Int)) else some (.done false)) (he : L ((xs.length : Nat) : Int) = dn c) :
    iter L FU 0 = bif allI p xs then c else some false := allK xs p c hl hs he
theorem ix_prev {α : Type} {xs : List α} {k : Nat} (hk : k < xs.length) (h0 : 0 < k) (hl : xs.length ≤ 9223372036854775806) : ∃ y, xs[k - 1]? = some y ∧ ix xs (WR ((k : Int) - 1)) = some y := by
  have h1 : k - 1 < xs.length := by omega
  refine ⟨xs[k - 1], List.getElem?_eq_getElem h1, ?_⟩
  rw [WR_in (by omega), show ((k : Int) - 1) = ((k - 1 : Nat) : Int) from by omega, ix_nat, List.getElem?_eq_getElem h1]
/-- The element ahead is below. -/
def prevB {α : Type} (key : α → Int) (xs : List α) (k : Nat) (x : α) : Bool := match k with
  | 0 => true
  | j + 1 => match xs[j]? with
    | some y => !leB (key x) (key y)
    | none => false
def asc (xs : List Int) : Bool := allI (prevB id xs) xs
theorem inr_i (a b c : Int) : iInRange a b c = some (inR a b c) := by
  unfold iInRange inR
  cases leB b a <;> rfl
theorem inr_s (a b c : Int) : sl1In a b c = some (inR a b c) := by
  unfold sl1In inR
  cases leB b a <;> rfl
theorem iasc_eq {xs : List Int} (h : xs.length ≤ 1048576) : iisAscending xs = some (asc xs) := by
  have key : ∀ (n m : Nat) (j : Nat), j + n = xs.length → 1 ≤ j → n < m → ∃ b, iter (iisAscending_L1 xs) m (j : Int) = some b ∧ (b = true ↔ ∀ k x, j ≤ k → xs[k]? = some x → prevB id xs k x = true) := by
    intro n
    induction n with
    | zero =>
      intro m j hj h1 hm
      cases m with
      | zero => omega
      | succ m =>
        simp only [iter, iisAscending_L1]
        rw [show ltB (j : Int) ((xs.length : Nat) : Int) = false from by simp [ltB]; omega]
        refine ⟨true, rfl, fun _ k x hk hx => ?_, fun _ => rfl⟩
        have := (List.getElem?_eq_some_iff.1 hx).1
        omega
    | succ n ih =>
      intro m j hj h1 hm
      cases m with
      | zero => omega
      | succ m =>
        have hjl : j < xs.length := by omega
        obtain ⟨y, hy, hi⟩ := ix_prev hjl (by omega) (by omega)
        simp only [iter, iisAscending_L1]
        rw [ltB_lt hjl, hi, ix_nat, List.getElem?_eq_getElem hjl]
        simp only [Option.bind_some, cond_true]
        obtain ⟨i, rfl⟩ : ∃ i, j = i + 1 := ⟨j - 1, by omega⟩
        simp only [Nat.add_sub_cancel] at hy
        cases hle : leB xs[i + 1] y with
        | true =>
          refine ⟨false, rfl, (fun h => by cases h), fun hh => ?_⟩
          have := hh (i + 1) _ (Nat.le_refl _) (List.getElem?_eq_getElem hjl)
          simp [prevB, hy, hle] at this
        | false =>
          simp only [cond_false]
          rw [WR_succ (show i + 1 < 9223372036854775807 by omega)]
          obtain ⟨b, hb, hi⟩ := ih m (i + 1 + 1) (by omega) (by omega) (by omega)
          refine ⟨b, hb, hi.trans ⟨fun hh k x hk hx => ?_, fun hh k x hk hx => hh k x (by omega) hx⟩⟩
          by_cases e : k = i + 1
          · subst e
            rw [List.getElem?_eq_getElem hjl] at hx; cases hx
            simp [prevB, hy, hle]
          · exact hh k x (by omega) hx
  unfold iisAscending
  cases hx : xs with
  | nil =>
    have : FU = (FU - 1) + 1 := by have := FU_big; omega
    rw [this, iter]
    simp [iisAscending_L1, dn, ltB, asc, allI]
  | cons a l =>
    rw [← hx]
    obtain ⟨b, hb, hi⟩ := key (xs.length - 1) FU 1 (by have : 0 < xs.length := (by rw [hx]; simp); omega) (Nat.le_refl _) (by have := FU_big; omega)
    rw [show (1 : Int) = ((1 : Nat) : Int) from rfl, hb]
    congr 1
    rw [Bool.eq_iff_iff, hi, asc, allI_iff]
    constructor
    · intro hh k x hk
      cases k with
      | zero => rfl
      | succ k => exact hh _ x (by omega) hk
    · intro hh k x _ hk; exact hh k x hk
/-! what is valid -/
def vKey (k : Int) : Bool := inR k 1 2147483646
theorem key_i (k : Int) : iIsValidKey k = some (vKey k) := by simp only [iIsValidKey, inr_i, Option.bind_some, vKey]
theorem key_s (k : Int) : sIsValidKey k = some (vKey k) := by simp only [sIsValidKey, inr_s, Option.bind_some, vKey]
def vSID (x : TSubscriberID) : Bool := inR x.Network 0 3 && inR x.Number 0 99
theorem sid_i (x : TSubscriberID) : iIsValidSubscriberID x = some (vSID x) := by
  simp only [iIsValidSubscriberID, inr_i, Option.bind_some, vSID]; cases inR x.Network 0 3 <;> rfl
theorem sid_s (x : TSubscriberID) : sIsValidSubscriberID x = some (vSID x) := by
  simp only [sIsValidSubscriberID, inr_s, Option.bind_some, vSID]; cases inR x.Network 0 3 <;> rfl
def vUSIM (x : TUSIM) : Bool := vSID x.ID && (vKey x.Key && inR x.LastSeq 0 999999)
theorem usim_i (x : TUSIM) : iIsValidUSIM x = some (vUSIM x) := by
  simp only [iIsValidUSIM, sid_i, key_i, inr_i, Option.bind_some, vUSIM]; cases vSID x.ID <;> cases vKey x.Key <;> rfl
theorem usim_s (x : TUSIM) : sIsValidUSIM x = some (vUSIM x) := by
  simp only [sIsValidUSIM, sid_s, key_s, inr_s, Option.bind_some, vUSIM]; cases vSID x.ID <;> cases vKey x.Key <;> rfl
def vRec (x : TSubscriberRecord) : Bool := vSID x.ID && (vKey x.Key && inR x.Seq 0 999999)
theorem rec_i (x : TSubscriberRecord) : iIsValidSubscriberRecord x = some (vRec x) := by
  simp only [iIsValidSubscriberRecord, sid_i, key_i, inr_i, Option.bind_some, vRec]; cases vSID x.ID <;> cases vKey x.Key <;> rfl
theorem rec_s (x : TSubscriberRecord) : sIsValidSubscriberRecord x = some (vRec x) := by
  simp only [sIsValidSubscriberRecord, sid_s, key_s, inr_s, Option.bind_some, vRec]; cases vSID x.ID <;> cases vKey x.Key <;> rfl
def vPaging (x : TPagingState) : Bool := inR x.Area 0 2 && (inR x.Attempt 0 4 && inR x.Wait 0 3)
theorem paging_i (x : TPagingState) : iIsValidPaging x = some (vPaging x) := by
  simp only [iIsValidPaging, inr_i, Option.bind_some, vPaging]; cases inR x.Area 0 2 <;> cases inR x.Attempt 0 4 <;> rfl
theorem paging_s (x : TPagingState) : sIsValidPaging x = some (vPaging x) := by
  simp only [sIsValidPaging, inr_s, Option.bind_some, vPaging]; cases inR x.Area 0 2 <;> cases inR x.Attempt 0 4 <;> rfl
def vPool (x : TServerPool) : Bool := inR x.Size 1 6 && inR x.UpMask 0 (WR ((bShl .i64 1 x.Size) - 1))
theorem pool_i (x : TServerPool) : iIsValidPool x = some (vPool x) := by
  simp only [iIsValidPool, inr_i, Option.bind_some, vPool]
  cases h : inR x.Size 1 6 with
  | false => rfl
  | true => rw [show leB 0 x.Size = true from by rw [inR_iff] at h; simp [leB]; omega]; rfl
theorem pool_s (x : TServerPool) : sIsValidPool x = some (vPool x) := by
  simp only [sIsValidPool, inr_s, Option.bind_some, vPool]
  cases h : inR x.Size 1 6 with
  | false => rfl
  | true => rw [show leB 0 x.Size = true from by rw [inR_iff] at h; simp [leB]; omega]; rfl
def vQuota (x : TQuota) : Bool := leB 0 x.SessionID && (leB 0 x.Used && (leB x.Used x.Granted && leB x.Granted 100000))
theorem quota_i (x : TQuota) : iIsValidQuota x = some (vQuota x) := by
  simp only [iIsValidQuota, Option.bind_some, vQuota]; cases leB 0 x.SessionID <;> cases leB 0 x.Used <;> cases leB x.Used x.Granted <;> rfl
theorem quota_s (x : TQuota) : sIsValidQuota x = some (vQuota x) := by
  have : vQuota x = (leB 0 x.SessionID && (inR x.Granted 0 100000 && inR x.Used 0 x.Granted)) := by
    rw [Bool.eq_iff_iff]; simp [vQuota, inR, leB]; omega
  rw [this]
  simp only [sIsValidQuota, inr_s, Option.bind_some]; cases leB 0 x.SessionID <;> cases inR x.Granted 0 100000 <;> rfl
def fitB (n : Nat) : Bool := !ltB 60 (n : Int)
def vFit (xs : List TPayload) : Bool := xs.all fun x => fitB x.Data.length
theorem fit_i {xs : List TPayload} (h : xs.length ≤ 1048576) : ifitPayload xs = some (vFit xs) :=
  all_rule xs (fun x => fitB x.Data.length) (by omega) (fun k x hx hk => by
    simp only [ifitPayload_L1, ltB_lt hk, ix_nat, hx, WR_succ (show k < 9223372036854775807 by omega), Option.bind_some, cond_true, fitB]
    cases ltB 60 ((x.Data.length : Nat) : Int) <;> rfl) (by simp [ifitPayload_L1, dn])
def pendB (r : TReceiveWindow) (k : Nat) (x : TNumberedPacket) : Bool := inR x.Seq (WR (r.Next + 1)) (WR (WR (r.Next + 8) - 1)) && (prevB TNumberedPacket.Seq r.Pending k x && fitB x.Data.length)
def vRecv (r : TReceiveWindow) : Bool := eqB r.Next (WR (((r.Delivered.length : Nat) : Int) + 1)) && (leB ((r.Delivered.length : Nat) : Int) 24 && (vFit r.Delivered && (leB ((r.Pending.length : Nat) : Int) 8 && allI (pendB r) r.Pending)))
theorem lt_le (a b : Int) : ltB a b = !leB b a := by rw [Bool.eq_iff_iff]; simp [ltB, leB]
theorem recv_i {r : TReceiveWindow} (h1 : r.Delivered.length ≤ 1048576) (h2 : r.Pending.length ≤ 1048576) : iIsValidReceiver r = some (vRecv r) := by
  have hL : iter (iIsValidReceiver_L1 r) FU 0 = bif allI (pendB r) r.Pending then some true else some false := by
    refine allI_rule r.Pending (pendB r) (some true) (by omega) (fun k x hx hk => ?_) (by simp [iIsValidReceiver_L1])
    simp only [iIsValidReceiver_L1, ltB_lt hk, ix_nat, hx, WR_succ (show k < 9223372036854775807 by omega), inr_i, Option.bind_some, cond_true, pendB, fitB]
    cases k with
    | zero =>
      simp only [prevB, show ltB 0 ((0 : Nat) : Int) = false from by simp [ltB]]
      cases ltB 60 ((x.Data.length : Nat) : Int) <;> cases inR x.Seq (WR (r.Next + 1)) (WR (WR (r.Next + 8) - 1)) <;> rfl
    | succ k =>
      obtain ⟨y, hy, hi⟩ := ix_prev hk (by omega) (by omega)
      simp only [Nat.add_sub_cancel] at hy
      simp only [prevB, hy, hi, show ltB 0 ((k + 1 : Nat) : Int) = true from by simp [ltB], Option.bind_some]
      cases ltB 60 ((x.Data.length : Nat) : Int) <;> cases inR x.Seq (WR (r.Next + 1)) (WR (WR (r.Next + 8) - 1)) <;> cases leB x.Seq y.Seq <;> rfl
  simp only [iIsValidReceiver, fit_i h1, Option.bind_some, hL, vRecv, lt_le 24, lt_le 8]
  cases eqB r.Next (WR (((r.Delivered.length : Nat) : Int) + 1)) <;> cases leB ((r.Delivered.length : Nat) : Int) 24 <;> cases vFit r.Delivered <;> cases leB ((r.Pending.length : Nat) : Int) 8 <;> cases allI (pendB r) r.Pending <;> rfl
theorem recv_s {r : TReceiveWindow} (h1 : r.Delivered.length ≤ 1048576) (h2 : r.Pending.length ≤ 1048576) : sIsValidReceiver r = some (vRecv r) := by
  have hF : iter (sIsValidReceiver_L2 r) FU 0 = bif allI (fun _ x => fitB x.Data.length) r.Delivered then some (eqB r.Next (WR (((r.Delivered.length : Nat) : Int) + 1)) && (leB ((r.Delivered.length : Nat) : Int) 24 && leB ((r.Pending.length : Nat) : Int) 8)) else some false := by
    refine allI_rule r.Delivered (fun _ x => fitB x.Data.length) _ (by omega) (fun k x hx hk => ?_) ?_
    · simp only [sIsValidReceiver_L2, ltB_lt hk, ix_nat, hx, WR_succ (show k < 9223372036854775807 by omega), Option.bind_some, cond_true, fitB]
      cases ltB 60 ((x.Data.length : Nat) : Int) <;> rfl
    · simp only [sIsValidReceiver_L2, ltB_self, cond_false]
      cases eqB r.Next (WR (((r.Delivered.length : Nat) : Int) + 1)) <;> cases leB ((r.Delivered.length : Nat) : Int) 24 <;> rfl
  have hL : iter (sIsValidReceiver_L1 r) FU 0 = bif allI (pendB r) r.Pending then iter (sIsValidReceiver_L2 r) FU 0 else some false := by
    refine allI_rule r.Pending (pendB r) _ (by omega) (fun k x hx hk => ?_) (by simp [sIsValidReceiver_L1])
    simp only [sIsValidReceiver_L1, ltB_lt hk, ix_nat, hx, WR_succ (show k < 9223372036854775807 by omega), inr_s, Option.bind_some, cond_true, pendB, fitB]
    cases k with
    | zero =>
      simp only [prevB, show ltB 0 ((0 : Nat) : Int) = false from by simp [ltB]]
      cases ltB 60 ((x.Data.length : Nat) : Int) <;> cases inR x.Seq (WR (r.Next + 1)) (WR (WR (r.Next + 8) - 1)) <;> rfl
    | succ k =>
      obtain ⟨y, hy, hi⟩ := ix_prev hk (by omega) (by omega)
      simp only [Nat.add_sub_cancel] at hy
      simp only [prevB, hy, hi, show ltB 0 ((k + 1 : Nat) : Int) = true from by simp [ltB], Option.bind_some]
      cases ltB 60 ((x.Data.length : Nat) : Int) <;> cases inR x.Seq (WR (r.Next + 1)) (WR (WR (r.Next + 8) - 1)) <;> cases leB x.Seq y.Seq <;> rfl
  rw [allI_all] at hF
  simp only [sIsValidReceiver, hL, hF, vRecv, vFit]
  cases eqB r.Next (WR (((r.Delivered.length : Nat) : Int) + 1)) <;> cases leB ((r.Delivered.length : Nat) : Int) 24 <;> cases (r.Delivered.all fun x => fitB x.Data.length) <;> cases leB ((r.Pending.length : Nat) : Int) 8 <;> cases allI (pendB r) r.Pending <;> rfl
def vDevice (d : TDevice) : Bool := vUSIM d.Card && (inR d.State 0 3 && (inR d.Cell 0 5 && (inR d.Generation 0 999999 && (inR d.Epoch 0 999999 && (inR d.RootKey 0 2147483646 && ((!inR d.State 2 3 || vKey d.RootKey) && (inR d.Wait 0 3 && vRecv d.Receiver)))))))
theorem st23 (n : Int) : inR n 2 3 = (eqB n 2 || eqB n 3) := by rw [Bool.eq_iff_iff]; simp [inR, leB, eqB]; omega
theorem device_i {d : TDevice} (h1 : d.Receiver.Delivered.length ≤ 1048576) (h2 : d.Receiver.Pending.length ≤ 1048576) : iIsValidDevice d = some (vDevice d) := by
  simp only [iIsValidDevice, usim_i, inr_i, key_i, recv_i h1 h2, Option.bind_some, vDevice, st23]
  cases vUSIM d.Card <;> cases inR d.State 0 3 <;> cases inR d.Cell 0 5 <;> try rfl
  cases inR d.Generation 0 999999 <;> cases inR d.Epoch 0 999999 <;> cases inR d.RootKey 0 2147483646 <;> try rfl
  cases eqB d.State 2 <;> cases eqB d.State 3 <;> cases vKey d.RootKey <;> cases inR d.Wait 0 3 <;> rfl
theorem device_s {d : TDevice} (h1 : d.Receiver.Delivered.length ≤ 1048576) (h2 : d.Receiver.Pending.length ≤ 1048576) : sIsValidDevice d = some (vDevice d) := by
  simp only [sIsValidDevice, usim_s, inr_s, key_s, recv_s h1 h2, Option.bind_some, vDevice]
  cases inR d.State 2 3 <;> cases vKey d.RootKey <;> cases vUSIM d.Card <;> cases inR d.State 0 3 <;> cases inR d.Cell 0 5 <;> cases inR d.Generation 0 999999 <;> try rfl
  all_goals (cases inR d.Epoch 0 999999 <;> cases inR d.RootKey 0 2147483646 <;> cases inR d.Wait 0 3 <;> rfl)
end Go.AM
set_option linter.unusedVariables false
set_option linter.unusedSimpArgs false
namespace Go.AM
open Go.Proofs
attribute [local simp] ltB_self eqB_refl ix_nat
theorem fold_rule {α : Type} {step : Int × Int → Option (Step (Int × Int) Int)} (xs : List α) (f : Int → α → Int) (hl : xs.length ≤ 9223372036854775806)
    (hs : ∀ (k : Nat) (x : α) (a : Int), xs[k]? = some x → k < xs.length → step (a, (k : Int)) = some (.next (f a x, ((k + 1 : Nat) : Int)))) (he : ∀ a, step (a, ((xs.length : Nat) : Int)) = some (.done a)) (a0 : Int) :
    iter step FU (a0, 0) = some (xs.foldl f a0) := by
  have := iter_for (step := step) xs (fun k (v : Int) => (v, (k : Int))) (fun v x => some (.next (f v x))) some hl
    (fun k x s hx hk => by rw [hs k x s hx hk]; rfl) (fun s => by rw [he]; rfl) a0
  refine Eq.trans (show iter step FU (a0, 0) = _ from this) ?_
  clear this he hs
  induction xs generalizing a0 with
  | nil => rfl
  | cons x xs ih => rw [forL, List.foldl_cons]; exact ih (by simp at hl; omega) _
def nbytes (xs : List TNumberedPacket) : Int := xs.foldl (fun a x => WR (a + ((x.Data.length : Nat) : Int))) 0
theorem nb_i {xs : List TNumberedPacket} (h : xs.length ≤ 1048576) : inumberedBytes xs = some (nbytes xs) := by
  unfold inumberedBytes
  rw [fold_rule xs (fun a x => WR (a + ((x.Data.length : Nat) : Int))) (by omega) (fun k x a hx hk => by
    simp only [inumberedBytes_L1, ltB_lt hk, ix_nat, hx, WR_succ (show k < 9223372036854775807 by omega), Option.bind_some, cond_true]) (fun a => by simp [inumberedBytes_L1])]
  rfl
theorem nb_s {xs : List TNumberedPacket} (h : xs.length ≤ 1048576) : sl30Bytes xs = some (nbytes xs) := by
  unfold sl30Bytes
  rw [fold_rule xs (fun a x => WR (a + ((x.Data.length : Nat) : Int))) (by omega) (fun k x a hx hk => by
    simp only [sl30Bytes_L1, ltB_lt hk, ix_nat, hx, WR_succ (show k < 9223372036854775807 by omega), Option.bind_some, cond_true]) (fun a => by simp [sl30Bytes_L1])]
  rfl
def remQ (q : TQuota) : Int := bif vQuota q then WR (q.Granted - q.Used) else 0
theorem rem_i (q : TQuota) : iRemainingQuota q = some (remQ q) := by simp only [iRemainingQuota, quota_i, Option.bind_some, remQ]; cases vQuota q <;> rfl
theorem rem_s (q : TQuota) : sRemainingQuota q = some (remQ q) := by simp only [sRemainingQuota, quota_s, Option.bind_some, remQ]; cases vQuota q <;> rfl
def ratesB (p : TSubscription) : Bool := inR p.RateLimit 1 1000 && (inR p.BestClass 1 4 && inR p.GrantSize 1 100000)
def vSubs (p : TSubscription) : Bool := ratesB p && allI (fun k x => inR x 0 3 && prevB id p.RoamingNetworks k x) p.RoamingNetworks
theorem subs_i {p : TSubscription} (h : okTSubscription p) : iIsValidSubscription p = some (vSubs p) := by
  have hl := h.1
  have hL : iter (iIsValidSubscription_L1 p) FU 0 = bif allI (fun _ x => inR x 0 3) p.RoamingNetworks then some (asc p.RoamingNetworks) else some false := by
    refine allI_rule p.RoamingNetworks (fun _ x => inR x 0 3) _ (by omega) (fun k x hx hk => ?_) (by simp [iIsValidSubscription_L1, iasc_eq hl])
    simp only [iIsValidSubscription_L1, ltB_lt hk, ix_nat, hx, WR_succ (show k < 9223372036854775807 by omega), inr_i, Option.bind_some, cond_true]
    cases inR x 0 3 <;> rfl
  simp only [iIsValidSubscription, inr_i, Option.bind_some, hL, vSubs, ratesB, ← allI_and, asc]
  cases inR p.RateLimit 1 1000 <;> cases inR p.BestClass 1 4 <;> cases inR p.GrantSize 1 100000 <;> cases allI (fun _ x => inR x 0 3) p.RoamingNetworks <;> rfl
theorem subs_s {p : TSubscription} (h : okTSubscription p) : sIsValidSubscription p = some (vSubs p) := by
  have hl := h.1
  have hL : iter (sIsValidSubscription_L1 p) FU 0 = bif allI (fun k x => inR x 0 3 && prevB id p.RoamingNetworks k x) p.RoamingNetworks then some (ratesB p) else some false := by
    refine allI_rule p.RoamingNetworks _ _ (by omega) (fun k x hx hk => ?_) ?_
    · simp only [sIsValidSubscription_L1, ltB_lt hk, ix_nat, hx, WR_succ (show k < 9223372036854775807 by omega), inr_s, Option.bind_some, cond_true]
      cases k with
      | zero =>
        simp only [prevB, show ltB 0 ((0 : Nat) : Int) = false from by simp [ltB]]
        cases inR x 0 3 <;> rfl
      | succ k =>
        obtain ⟨y, hy, hi⟩ := ix_prev hk (by omega) (by omega)
        simp only [Nat.add_sub_cancel] at hy
        simp only [prevB, hy, hi, hx, ix_nat, show ltB 0 ((k + 1 : Nat) : Int) = true from by simp [ltB], Option.bind_some, id]
        cases inR x 0 3 <;> cases leB x y <;> rfl
    · simp only [sIsValidSubscription_L1, ltB_self, inr_s, Option.bind_some, cond_false, ratesB]
      cases inR p.RateLimit 1 1000 <;> cases inR p.BestClass 1 4 <;> rfl
  simp only [sIsValidSubscription, hL, vSubs]
  cases ratesB p <;> cases allI (fun k x => inR x 0 3 && prevB id p.RoamingNetworks k x) p.RoamingNetworks <;> rfl
def unB (w : TSendWindow) (k : Nat) (x : TNumberedPacket) : Bool := eqB x.Seq (WR (WR (w.Next - ((w.Unacked.length : Nat) : Int)) + (k : Int))) && fitB x.Data.length
def vSender (w : TSendWindow) : Bool := inR w.Next 1 100000 && (leB ((w.Unacked.length : Nat) : Int) 8 && (leB 1 (WR (w.Next - ((w.Unacked.length : Nat) : Int))) && allI (unB w) w.Unacked))
theorem sender_i {w : TSendWindow} (h : okTSendWindow w) : iIsValidSender w = some (vSender w) := by
  have hl := h.1
  have hL : iter (iIsValidSender_L1 w) FU 0 = bif allI (unB w) w.Unacked then some true else some false := by
    refine allI_rule w.Unacked (unB w) _ (by omega) (fun k x hx hk => ?_) (by simp [iIsValidSender_L1])
    simp only [iIsValidSender_L1, ltB_lt hk, ix_nat, hx, WR_succ (show k < 9223372036854775807 by omega), Option.bind_some, cond_true, unB, fitB]
    cases eqB x.Seq (WR (WR (w.Next - ((w.Unacked.length : Nat) : Int)) + (k : Int))) <;> cases ltB 60 ((x.Data.length : Nat) : Int) <;> rfl
  simp only [iIsValidSender, inr_i, Option.bind_some, hL, vSender, lt_le]
  cases inR w.Next 1 100000 <;> cases leB ((w.Unacked.length : Nat) : Int) 8 <;> cases leB 1 (WR (w.Next - ((w.Unacked.length : Nat) : Int))) <;> cases allI (unB w) w.Unacked <;> rfl
theorem sender_s {w : TSendWindow} (h : okTSendWindow w) : sIsValidSender w = some (vSender w) := by
  have hl := h.1
  have hL : iter (sIsValidSender_L1 w) FU 0 = bif allI (unB w) w.Unacked then some (inR w.Next 1 100000 && (leB ((w.Unacked.length : Nat) : Int) 8 && leB 1 (WR (w.Next - ((w.Unacked.length : Nat) : Int))))) else some false := by
    refine allI_rule w.Unacked (unB w) _ (by omega) (fun k x hx hk => ?_) ?_
    · simp only [sIsValidSender_L1, ltB_lt hk, ix_nat, hx, WR_succ (show k < 9223372036854775807 by omega), Option.bind_some, cond_true, unB, fitB]
      cases eqB x.Seq (WR (WR (w.Next - ((w.Unacked.length : Nat) : Int)) + (k : Int))) <;> cases ltB 60 ((x.Data.length : Nat) : Int) <;> rfl
    · simp only [sIsValidSender_L1, ltB_self, inr_s, Option.bind_some, cond_false]
      cases inR w.Next 1 100000 <;> cases leB ((w.Unacked.length : Nat) : Int) 8 <;> rfl
  simp only [sIsValidSender, hL, vSender]
  cases inR w.Next 1 100000 <;> cases leB ((w.Unacked.length : Nat) : Int) 8 <;> cases leB 1 (WR (w.Next - ((w.Unacked.length : Nat) : Int))) <;> cases allI (unB w) w.Unacked <;> rfl
def sameB (a b : List Int) : Bool := strB (bsOf a) (bsOf b)
theorem eqb_i (a b : List Int) : iEqualBytes a b = some (sameB a b) := rfl
theorem eqb_s (a b : List Int) : sEqualBytes a b = some (sameB a b) := rfl
/-- The packet is as submitted. -/
def subB (s : TSession) (x : TNumberedPacket) : Bool := match s.Submitted[(x.Seq - 1).toNat]? with
  | some y => sameB x.Data y.Data
  | none => false
def streamB (s : TSession) : Bool := leB ((s.Submitted.length : Nat) : Int) 24 && (vFit s.Submitted && (vSender s.Window && leB s.Window.Next (WR (((s.Submitted.length : Nat) : Int) + 1))))
def paidB (s : TSession) : Bool := leB (nbytes s.Window.Unacked) (remQ s.Usage)
def keysB (s : TSession) : Bool := (!eqB s.State 1 || vKey s.RootKey) && (!ltB 0 s.PendingSeq || vKey s.Pending.Key)
def vSession (s : TSession) : Bool := vRec s.Record && (vSubs s.Plan && (vPaging s.Page && (vSender s.Window && (vQuota s.Usage && (inR s.State 0 1 && (keysB s && (inR s.PendingSeq 0 999999 && (inR s.Generation 0 999999 && (inR s.Epoch 0 999999 && (inR s.RootKey 0 2147483646 &&
  (inR s.Cell 0 5 && (inR s.Quiet 0 5 && (inR s.Retry 0 3 && (leB ((s.Submitted.length : Nat) : Int) 24 && (vFit s.Submitted && (leB s.Window.Next (WR (((s.Submitted.length : Nat) : Int) + 1)) && (s.Window.Unacked.all (subB s) && paidB s)))))))))))))))))
theorem un_ix {s : TSession} (hs : streamB s = true) {k : Nat} {x : TNumberedPacket} (hx : s.Window.Unacked[k]? = some x) : ∃ y, ix s.Submitted (WR (x.Seq - 1)) = some y ∧ s.Submitted[(x.Seq - 1).toNat]? = some y := by
  simp only [streamB, vSender, Bool.and_eq_true, allI_iff, inR_iff] at hs
  obtain ⟨h1, h2, ⟨⟨h3, h3'⟩, h4, h5, h6⟩, h7⟩ := hs
  have hk := (List.getElem?_eq_some_iff.1 hx).1
  have h8 := h6 k x hx
  simp only [unB, Bool.and_eq_true] at h8
  have h4' : (s.Window.Unacked.length : Int) ≤ 8 := by simpa [leB] using h4
  have h1' : (s.Submitted.length : Int) ≤ 24 := by simpa [leB] using h1
  rw [WR_in (by omega)] at h5
  rw [WR_in (by omega)] at h7
  have h9 := h8.1
  rw [WR_in (n := s.Window.Next - _) (by omega), WR_in (by omega)] at h9
  have h9' : x.Seq = s.Window.Next - s.Window.Unacked.length + k := by simpa [eqB] using h9
  have h5' : 1 ≤ s.Window.Next - (s.Window.Unacked.length : Int) := by simpa [leB] using h5
  have h7' : s.Window.Next ≤ (s.Submitted.length : Int) + 1 := by simpa [leB] using h7
  have hlt : (x.Seq - 1).toNat < s.Submitted.length := by omega
  refine ⟨s.Submitted[(x.Seq - 1).toNat], ?_, List.getElem?_eq_getElem hlt⟩
  have hm : x.Seq - 1 = (((x.Seq - 1).toNat : Nat) : Int) := by omega
  rw [WR_in (by omega)]
  generalize (x.Seq - 1).toNat = m at hm hlt ⊢
  rw [hm, ix_nat, List.getElem?_eq_getElem hlt]
theorem tail_i {s : TSession} (h : okTSession s) (hs : streamB s = true) : iter (iIsValidSession_L1 s) FU 0 = some (s.Window.Unacked.all (subB s) && paidB s) := by
  have hl := h.2.2.1
  have := allI_rule (L := iIsValidSession_L1 s) s.Window.Unacked (fun _ x => subB s x) (some (paidB s)) (by omega) (fun k x hx hk => by
    obtain ⟨y, h1, h2⟩ := un_ix hs hx
    simp only [iIsValidSession_L1, ltB_lt hk, ix_nat, hx, h1, eqb_i, WR_succ (show k < 9223372036854775807 by omega), Option.bind_some, cond_true, subB, h2]
    cases sameB x.Data y.Data <;> rfl) (by simp [iIsValidSession_L1, iOutstandingBytes, nb_i hl, rem_i, paidB])
  rw [this, allI_all]
  cases s.Window.Unacked.all (subB s) <;> rfl
theorem tail_s {s : TSession} (h : okTSession s) (hs : streamB s = true) : iter (sl30Stream_L2 s) FU 0 = some (s.Window.Unacked.all (subB s) && paidB s) := by
  have hl := h.2.2.1
  have := allI_rule (L := sl30Stream_L2 s) s.Window.Unacked (fun _ x => subB s x) (some (paidB s)) (by omega) (fun k x hx hk => by
    obtain ⟨y, h1, h2⟩ := un_ix hs hx
    simp only [sl30Stream_L2, ltB_lt hk, ix_nat, hx, h1, eqb_s, WR_succ (show k < 9223372036854775807 by omega), Option.bind_some, cond_true, subB, h2]
    cases sameB x.Data y.Data <;> rfl) (by simp [sl30Stream_L2, nb_s hl, rem_s, paidB])
  rw [this, allI_all]
  cases s.Window.Unacked.all (subB s) <;> rfl
theorem stream_s {s : TSession} (h : okTSession s) : sl30Stream s = some (streamB s && (s.Window.Unacked.all (subB s) && paidB s)) := by
  have hl := h.2.1.1
  have hL := allI_rule (L := sl30Stream_L1 s) s.Submitted (fun _ x => fitB x.Data.length) (bif leB ((s.Submitted.length : Nat) : Int) 24 && (vSender s.Window && leB s.Window.Next (WR (((s.Submitted.length : Nat) : Int) + 1))) then iter (sl30Stream_L2 s) FU 0 else some false) (by omega) (fun k x hx hk => by
      simp only [sl30Stream_L1, ltB_lt hk, ix_nat, hx, WR_succ (show k < 9223372036854775807 by omega), Option.bind_some, cond_true, fitB]
      cases ltB 60 ((x.Data.length : Nat) : Int) <;> rfl) (by
      simp only [sl30Stream_L1, ltB_self, cond_false, sender_s h.2.2, Option.bind_some, lt_le]
      cases leB ((s.Submitted.length : Nat) : Int) 24 <;> cases vSender s.Window <;> cases leB s.Window.Next (WR (((s.Submitted.length : Nat) : Int) + 1)) <;> rfl)
  rw [allI_all] at hL
  unfold sl30Stream
  rw [hL]
  cases hs : streamB s with
  | true =>
    rw [tail_s h hs]
    simp only [streamB, vFit, Bool.and_eq_true] at hs
    simp [hs.1, hs.2.1, hs.2.2.1, hs.2.2.2]
  | false =>
    have : (leB ((s.Submitted.length : Nat) : Int) 24 && (vSender s.Window && leB s.Window.Next (WR (((s.Submitted.length : Nat) : Int) + 1)))) = false ∨ (s.Submitted.all fun x => fitB x.Data.length) = false := by
      simp only [streamB, vFit] at hs
      revert hs
      cases leB ((s.Submitted.length : Nat) : Int) 24 <;> cases vSender s.Window <;> cases leB s.Window.Next (WR (((s.Submitted.length : Nat) : Int) + 1)) <;> cases (s.Submitted.all fun x => fitB x.Data.length) <;> simp
    rcases this with e | e <;> rw [e]
    · cases (s.Submitted.all fun x => fitB x.Data.length) <;> rfl
    · rfl
theorem st01 (n : Int) : inR n 0 1 = (eqB n 0 || eqB n 1) := by rw [Bool.eq_iff_iff]; simp [inR, leB, eqB]; omega
theorem session_i {s : TSession} (h : okTSession s) : iIsValidSession s = some (vSession s) := by
  have hz := fun hs => tail_i h hs
  simp only [iIsValidSession, rec_i, subs_i h.1, paging_i, sender_i h.2.2, quota_i, key_i, inr_i, fit_i h.2.1.1, Option.bind_some, vSession, keysB, st01, lt_le 24, lt_le (WR (((s.Submitted.length : Nat) : Int) + 1))]
  simp only [streamB] at hz
  revert hz
  generalize iter (iIsValidSession_L1 s) FU 0 = z
  cases vRec s.Record
  · intro _; rfl
  cases vSubs s.Plan
  · intro _; rfl
  cases vPaging s.Page
  · intro _; rfl
  cases vSender s.Window
  · intro _; rfl
  cases vQuota s.Usage
  · intro _; rfl
  cases eqB s.State 0 <;> cases eqB s.State 1 <;> try (intro _; rfl)
  all_goals
    cases vKey s.RootKey <;> cases ltB 0 s.PendingSeq <;> cases vKey s.Pending.Key <;> try (intro _; rfl)
  all_goals
    cases inR s.PendingSeq 0 999999 <;> cases inR s.Generation 0 999999 <;> cases inR s.Epoch 0 999999 <;> cases inR s.RootKey 0 2147483646 <;> try (intro _; rfl)
  all_goals
    cases inR s.Cell 0 5 <;> cases inR s.Quiet 0 5 <;> cases inR s.Retry 0 3 <;> try (intro _; rfl)
  all_goals
    cases leB ((s.Submitted.length : Nat) : Int) 24 <;> cases vFit s.Submitted <;> cases leB s.Window.Next (WR (((s.Submitted.length : Nat) : Int) + 1)) <;> intro hz <;> first | rfl | exact hz rfl
theorem session_s {s : TSession} (h : okTSession s) : sIsValidSession s = some (vSession s) := by
  have : vSession s = (inR s.State 0 1 && (keysB s && (vRec s.Record && (vSubs s.Plan && (vPaging s.Page && (vQuota s.Usage && ((streamB s && (s.Window.Unacked.all (subB s) && paidB s)) && (inR s.PendingSeq 0 999999 && (inR s.Generation 0 999999 && (inR s.Epoch 0 999999 && (inR s.RootKey 0 2147483646 && (inR s.Cell 0 5 && (inR s.Quiet 0 5 && inR s.Retry 0 3))))))))))))) := by
    simp only [vSession, streamB]; ac_rfl
  rw [this]
  simp only [sIsValidSession, rec_s, subs_s h.1, paging_s, quota_s, key_s, inr_s, stream_s h, Option.bind_some, keysB, st01]
  cases eqB s.State 0 <;> cases eqB s.State 1 <;> cases vKey s.RootKey <;> cases ltB 0 s.PendingSeq <;> cases vKey s.Pending.Key <;> try rfl
  all_goals
    cases vRec s.Record <;> cases vSubs s.Plan <;> cases vPaging s.Page <;> cases vQuota s.Usage <;> cases (streamB s && (s.Window.Unacked.all (subB s) && paidB s)) <;> try rfl
  all_goals
    cases inR s.PendingSeq 0 999999 <;> cases inR s.Generation 0 999999 <;> cases inR s.Epoch 0 999999 <;> cases inR s.RootKey 0 2147483646 <;> try rfl
  all_goals
    cases inR s.Cell 0 5 <;> cases inR s.Quiet 0 5 <;> rfl
end Go.AM
set_option linter.unusedVariables false
set_option linter.unusedSimpArgs false
namespace Go.AM
open Go.Proofs
attribute [local simp] ltB_self eqB_refl ix_nat
def totR (a : TAccount) : Int := a.Reservations.foldl (fun s x => WR (s + x.Amount)) 0
theorem totr_i {a : TAccount} (h : okTAccount a) : iTotalReserved a = some (totR a) := by
  have := h.1
  unfold iTotalReserved
  rw [fold_rule a.Reservations (fun s x => WR (s + x.Amount)) (by omega) (fun k x s hx hk => by
    simp only [iTotalReserved_L1, ltB_lt hk, ix_nat, hx, WR_succ (show k < 9223372036854775807 by omega), Option.bind_some, cond_true]) (fun s => by simp [iTotalReserved_L1])]
  rfl
theorem totr_s {a : TAccount} (h : okTAccount a) : sTotalReserved a = some (totR a) := by
  have := h.1
  unfold sTotalReserved
  rw [fold_rule a.Reservations (fun s x => WR (s + x.Amount)) (by omega) (fun k x s hx hk => by
    simp only [sTotalReserved_L1, ltB_lt hk, ix_nat, hx, WR_succ (show k < 9223372036854775807 by omega), Option.bind_some, cond_true]) (fun s => by simp [sTotalReserved_L1])]
  rfl
def resB (a : TAccount) (k : Nat) (x : TReservation) : Bool := !ltB x.SessionID 0 && (inR x.Amount 1 100000 && prevB TReservation.SessionID a.Reservations k x)
def totB (a : TAccount) : Bool := eqB (WR (WR (a.Available + a.Spent) + totR a)) a.Total
def vAccount (a : TAccount) : Bool := inR a.Total 0 100000 && (inR a.Available 0 a.Total && (inR a.Spent 0 a.Total && (leB ((a.Reservations.length : Nat) : Int) 8 && (allI (resB a) a.Reservations && totB a))))
theorem account_i {a : TAccount} (h : okTAccount a) : iIsValidAccount a = some (vAccount a) := by
  have hl := h.1
  have hL : iter (iIsValidAccount_L1 a) FU 0 = bif allI (resB a) a.Reservations then some (totB a) else some false := by
    refine allI_rule a.Reservations (resB a) _ (by omega) (fun k x hx hk => ?_) (by simp [iIsValidAccount_L1, totr_i h, totB])
    simp only [iIsValidAccount_L1, ltB_lt hk, ix_nat, hx, WR_succ (show k < 9223372036854775807 by omega), inr_i, Option.bind_some, cond_true, resB]
    cases k with
    | zero =>
      simp only [prevB, show ltB 0 ((0 : Nat) : Int) = false from by simp [ltB]]
      cases ltB x.SessionID 0 <;> cases inR x.Amount 1 100000 <;> rfl
    | succ k =>
      obtain ⟨y, hy, hi⟩ := ix_prev hk (by omega) (by omega)
      simp only [Nat.add_sub_cancel] at hy
      simp only [prevB, hy, hi, show ltB 0 ((k + 1 : Nat) : Int) = true from by simp [ltB], Option.bind_some]
      cases ltB x.SessionID 0 <;> cases inR x.Amount 1 100000 <;> cases leB x.SessionID y.SessionID <;> rfl
  simp only [iIsValidAccount, inr_i, Option.bind_some, hL, vAccount, lt_le 8]
  cases inR a.Total 0 100000 <;> cases inR a.Available 0 a.Total <;> cases inR a.Spent 0 a.Total <;> cases leB ((a.Reservations.length : Nat) : Int) 8 <;> cases allI (resB a) a.Reservations <;> rfl
theorem account_s {a : TAccount} (h : okTAccount a) : sIsValidAccount a = some (vAccount a) := by
  have hl := h.1
  have hL : iter (sIsValidAccount_L1 a) FU 0 = bif allI (resB a) a.Reservations then some (inR a.Total 0 100000 && (inR a.Available 0 a.Total && (inR a.Spent 0 a.Total && (leB ((a.Reservations.length : Nat) : Int) 8 && totB a)))) else some false := by
    refine allI_rule a.Reservations (resB a) _ (by omega) (fun k x hx hk => ?_) ?_
    · simp only [sIsValidAccount_L1, ltB_lt hk, ix_nat, hx, WR_succ (show k < 9223372036854775807 by omega), inr_s, Option.bind_some, cond_true, resB]
      cases k with
      | zero =>
        simp only [prevB, show ltB 0 ((0 : Nat) : Int) = false from by simp [ltB]]
        cases ltB x.SessionID 0 <;> cases inR x.Amount 1 100000 <;> rfl
      | succ k =>
        obtain ⟨y, hy, hi⟩ := ix_prev hk (by omega) (by omega)
        simp only [Nat.add_sub_cancel] at hy
        simp only [prevB, hy, hi, hx, ix_nat, show ltB 0 ((k + 1 : Nat) : Int) = true from by simp [ltB], Option.bind_some]
        cases ltB x.SessionID 0 <;> cases inR x.Amount 1 100000 <;> cases leB x.SessionID y.SessionID <;> rfl
    · simp only [sIsValidAccount_L1, ltB_self, inr_s, totr_s h, Option.bind_some, cond_false, totB]
      cases inR a.Total 0 100000 <;> cases inR a.Available 0 a.Total <;> cases inR a.Spent 0 a.Total <;> cases leB ((a.Reservations.length : Nat) : Int) 8 <;> rfl
  simp only [sIsValidAccount, hL, vAccount]
  cases inR a.Total 0 100000 <;> cases inR a.Available 0 a.Total <;> cases inR a.Spent 0 a.Total <;> cases leB ((a.Reservations.length : Nat) : Int) 8 <;> cases allI (resB a) a.Reservations <;> rfl
def resFor (a : TAccount) (i : Int) : Int := match a.Reservations.find? (fun x => eqB x.SessionID i) with
  | some x => x.Amount
  | none => 0
theorem find_ix {α : Type} (p : α → Bool) (xs : List α) : (idxF p 0 xs = -1 ∧ xs.find? p = none) ∨ ∃ x, ltB (idxF p 0 xs) 0 = false ∧ ix xs (idxF p 0 xs) = some x ∧ xs.find? p = some x := by
  rcases idx_cases p xs 0 with ⟨h1, h2⟩ | ⟨j, h1, x, h2, h3, h4⟩
  · exact .inl ⟨h1, by rw [List.find?_eq_none]; intro x hx; simp [h2 x hx]⟩
  · right
    have h1' : idxF p 0 xs = ((j : Nat) : Int) := by simpa using h1
    refine ⟨x, by rw [h1']; simp [ltB], by rw [h1', ix_nat, h2], ?_⟩
    have hj := (List.getElem?_eq_some_iff.1 h2)
    rw [List.find?_eq_some_iff_getElem]
    have hjl := hj.1
    refine ⟨h3, j, hjl, hj.2, fun i hi => ?_⟩
    have hil : i < xs.length := Nat.lt_trans hi hjl
    have : xs[i] ∈ xs.take j := List.mem_take_iff_getElem.2 ⟨i, by omega, rfl⟩
    simp [h4 _ this]
theorem resfor_i {a : TAccount} (h : okTAccount a) (i : Int) : iReservedFor a i = some (resFor a i) := by
  have := h.1
  have hf := find_rule (L := ireservationIndex_L1 a i) a.Reservations (fun x => eqB x.SessionID i) (by omega) (fun k x hx hk => by
    simp only [ireservationIndex_L1, ltB_lt hk, ix_nat, hx, WR_succ (show k < 9223372036854775807 by omega), Option.bind_some, cond_true]
    cases eqB x.SessionID i <;> rfl) (by simp [ireservationIndex_L1, dn])
  unfold iReservedFor ireservationIndex resFor
  rw [hf]
  rcases find_ix (fun x : TReservation => eqB x.SessionID i) a.Reservations with ⟨e1, e2⟩ | ⟨x, e1, e2, e3⟩
  · rw [e1, e2]; simp [ltB]
  · simp only [Option.bind_some, e1, e2, e3, cond_false]
theorem resfor_s {a : TAccount} (h : okTAccount a) (i : Int) : sReservedFor a i = some (resFor a i) := by
  have := h.1
  have hf := find_rule (L := sl16Find_L1 a i) a.Reservations (fun x => eqB x.SessionID i) (by omega) (fun k x hx hk => by
    simp only [sl16Find_L1, ltB_lt hk, ix_nat, hx, WR_succ (show k < 9223372036854775807 by omega), Option.bind_some, cond_true]
    cases eqB x.SessionID i <;> rfl) (by simp [sl16Find_L1, dn])
  unfold sReservedFor sl16Find resFor
  rw [hf]
  rcases find_ix (fun x : TReservation => eqB x.SessionID i) a.Reservations with ⟨e1, e2⟩ | ⟨x, e1, e2, e3⟩
  · rw [e1, e2]; simp [ltB]
  · simp only [Option.bind_some, e1, e2, e3, cond_false]
def vMatch (a : TAccount) (q : TQuota) : Bool := vAccount a && (vQuota q && eqB (resFor a q.SessionID) q.Granted)
theorem match_i {a : TAccount} (h : okTAccount a) (q : TQuota) : iQuotaMatchesAccount a q = some (vMatch a q) := by
  simp only [iQuotaMatchesAccount, account_i h, quota_i, resfor_i h, Option.bind_some, vMatch]; cases vAccount a <;> cases vQuota q <;> rfl
theorem match_s {a : TAccount} (h : okTAccount a) (q : TQuota) : sQuotaMatchesAccount a q = some (vMatch a q) := by
  simp only [sQuotaMatchesAccount, account_s h, quota_s, resfor_s h, Option.bind_some, vMatch]; cases vAccount a <;> cases vQuota q <;> rfl
/-! the map -/
theorem allI_ruleG {α ρ : Type} {L : Int → Option (Step Int ρ)} (xs : List α) (p : Nat → α → Bool) (f : ρ) (c : Option ρ) (hl : xs.length ≤ 9223372036854775806)
    (hs : ∀ (k : Nat) (x : α), xs[k]? = some x → k < xs.length → L (k : Int) = bif p k x then some (.next ((k + 1 : Nat) : Int)) else some (.done f)) (he : L ((xs.length : Nat) : Int) = dn c) :
    iter L FU 0 = bif allI p xs then c else some f := by
  have := iter_for (step := L) xs.zipIdx (fun k (_ : Unit) => (k : Int)) (fun _ y => bif p y.2 y.1 then some (.next ()) else some (.done f)) (fun _ => c) (by simpa using hl)
    (fun k y s hy hk => by
      have hk' : k < xs.length := by simpa using hk
      have : y = (xs[k], k) := by rw [List.getElem?_eq_getElem hk] at hy; simpa using hy.symm
      subst this
      rw [hs k xs[k] (List.getElem?_eq_getElem hk') hk']; cases p k xs[k] <;> rfl) (fun s => by rw [List.length_zipIdx, he]) ()
  refine Eq.trans (show iter L FU 0 = _ from this) ?_
  have key : ∀ ys : List (α × Nat), forL (fun (_ : Unit) y => bif p y.2 y.1 then some (.next ()) else some (Step.done f)) (fun _ => c) ys () = bif ys.all (fun y => p y.2 y.1) then c else some f := by
    intro ys
    induction ys with
    | nil => rfl
    | cons x xs ih => rw [forL]; cases hp : p x.2 x.1 <;> simp [hp, ih]
  exact key _
theorem has_s {l : List Int} (h : l.length ≤ 1048576) (v : Int) : sl10Has l v = some (l.any fun x => eqB x v) :=
  any_rule l (fun x => eqB x v) (by omega) (fun k x hx hk => by
    simp only [sl10Has_L1, ltB_lt hk, ix_nat, hx, WR_succ (show k < 9223372036854775807 by omega), Option.bind_some, cond_true]
    cases eqB x v <;> rfl) (by simp [sl10Has_L1, dn])
theorem eqB_comm (a b : Int) : eqB a b = eqB b a := by rw [Bool.eq_iff_iff]; simp [eqB]; exact eq_comm
theorem has_i {l : List Int} (h : l.length ≤ 1048576) (v : Int) : gslices_Contains_int_int l v = some (l.any fun x => eqB x v) := by
  have hf := find_rule (L := gslices_Index_int_int_L1 l v) l (fun x => eqB x v) (by omega) (fun k x hx hk => by
    simp only [gslices_Index_int_int_L1, ltB_lt hk, ix_nat, hx, WR_succ (show k < 9223372036854775807 by omega), Option.bind_some, cond_true, eqB_comm v x]
    cases eqB x v <;> rfl) (by simp [gslices_Index_int_int_L1, dn])
  unfold gslices_Contains_int_int gslices_Index_int_int
  rw [hf]
  simp only [Option.bind_some]
  rw [idx_nonneg (by omega)]
def cellB (m : TCellMap) (i : Int) : Bool := inR i 0 (((m.Cells.length : Nat) : Int) - 1)
theorem cell_i {m : TCellMap} (h : m.Cells.length ≤ 1048576) (i : Int) : iisCell m i = some (cellB m i) := by
  simp only [iisCell, inr_i, WR_pred h, Option.bind_some, cellB]
def backB (m : TCellMap) (x : Int) (i : Nat) : Bool := match m.Cells[x.toNat]? with
  | some d => d.Neighbors.any fun y => eqB y (i : Int)
  | none => false
def nbB (m : TCellMap) (i : Nat) (ns : List Int) (k : Nat) (x : Int) : Bool := cellB m x && (!eqB x (i : Int) && (prevB id ns k x && backB m x i))
def vCell (m : TCellMap) (i : Nat) (c : TCell) : Bool := inR c.Area 0 2 && allI (nbB m i c.Neighbors) c.Neighbors
def vMap (m : TCellMap) : Bool := inR ((m.Cells.length : Nat) : Int) 1 6 && allI (vCell m) m.Cells
theorem cell_ix {m : TCellMap} {x : Int} (h : cellB m x = true) : ∃ d, d ∈ m.Cells ∧ ix m.Cells x = some d ∧ m.Cells[x.toNat]? = some d := by
  simp only [cellB, inR_iff] at h
  have hlt : x.toNat < m.Cells.length := by omega
  refine ⟨m.Cells[x.toNat], List.getElem_mem hlt, ?_, List.getElem?_eq_getElem hlt⟩
  have hm : x = ((x.toNat : Nat) : Int) := by omega
  generalize x.toNat = m at hm hlt ⊢
  rw [hm, ix_nat, List.getElem?_eq_getElem hlt]
theorem map_i {m : TCellMap} (h : okTCellMap m) : iIsValidMap m = some (vMap m) := by
  have hl := h.1
  have h2 : ∀ (i : Nat) (c : TCell), c ∈ m.Cells → i < m.Cells.length → iter (iIsValidMap_L2 m (i : Int) c) FU 0 = bif allI (fun k x => !eqB x (i : Int) && (cellB m x && backB m x i)) c.Neighbors then some (.next ((i + 1 : Nat) : Int)) else some (.done false) := by
    intro i c hc hi
    have hn := (h.2 c hc).1
    refine allI_ruleG c.Neighbors (fun k x => !eqB x (i : Int) && (cellB m x && backB m x i)) (Step.done false) _ (by omega) (fun k x hx hk => ?_) (by simp [iIsValidMap_L2, WR_succ (show i < 9223372036854775807 by omega)])
    simp only [iIsValidMap_L2, ltB_lt hk, ix_nat, hx, WR_succ (show k < 9223372036854775807 by omega), cell_i hl, iAreNeighbors, Option.bind_some, cond_true]
    cases eqB x (i : Int) with
    | true => rfl
    | false =>
      cases hcb : cellB m x with
      | false => rfl
      | true =>
        obtain ⟨d, d1, d2, d3⟩ := cell_ix hcb
        simp only [d2, has_i (h.2 d d1).1, backB, d3, Option.bind_some, cond_true, cond_false, Bool.not_true, Bool.not_false]
        cases (d.Neighbors.any fun y => eqB y (i : Int)) <;> rfl
  have hL : iter (iIsValidMap_L1 m) FU 0 = bif allI (vCell m) m.Cells then some true else some false := by
    refine allI_ruleG m.Cells (vCell m) false (some true) (by omega) (fun k x hx hk => ?_) (by simp [iIsValidMap_L1])
    have hm := List.mem_of_getElem? hx
    simp only [iIsValidMap_L1, ltB_lt hk, ix_nat, hx, inr_i, iasc_eq (h.2 x hm).1, h2 k x hm hk, Option.bind_some, cond_true, vCell]
    have : allI (nbB m k x.Neighbors) x.Neighbors = (asc x.Neighbors && allI (fun j y => !eqB y (k : Int) && (cellB m y && backB m y k)) x.Neighbors) := by
      rw [asc, allI_and]
      exact allI_congr fun j y _ => by simp only [nbB]; ac_rfl
    rw [this]
    cases inR x.Area 0 2 <;> cases asc x.Neighbors <;> cases allI (fun j y => !eqB y (k : Int) && (cellB m y && backB m y k)) x.Neighbors <;> rfl
  simp only [iIsValidMap, inr_i, Option.bind_some, hL, vMap]
  cases inR ((m.Cells.length : Nat) : Int) 1 6 <;> cases allI (vCell m) m.Cells <;> rfl
theorem map_s {m : TCellMap} (h : okTCellMap m) : sIsValidMap m = some (vMap m) := by
  have hl := h.1
  have h2 : ∀ (i : Nat) (c : TCell), c ∈ m.Cells → i < m.Cells.length → iter (sIsValidMap_L2 m (i : Int) c) FU 0 = bif allI (nbB m i c.Neighbors) c.Neighbors then some (.next ((i + 1 : Nat) : Int)) else some (.done false) := by
    intro i c hc hi
    have hn := (h.2 c hc).1
    refine allI_ruleG c.Neighbors (nbB m i c.Neighbors) (Step.done false) _ (by omega) (fun k x hx hk => ?_) (by simp [sIsValidMap_L2, WR_succ (show i < 9223372036854775807 by omega)])
    simp only [sIsValidMap_L2, ltB_lt hk, ix_nat, hx, WR_succ (show k < 9223372036854775807 by omega), inr_s, WR_pred hl, Option.bind_some, cond_true, nbB]
    cases hcb : cellB m x with
    | false => rw [show inR x 0 (((m.Cells.length : Nat) : Int) - 1) = false from hcb]; rfl
    | true =>
      rw [show inR x 0 (((m.Cells.length : Nat) : Int) - 1) = true from hcb]
      obtain ⟨d, d1, d2, d3⟩ := cell_ix hcb
      cases k with
      | zero =>
        simp only [prevB, show ltB 0 ((0 : Nat) : Int) = false from by simp [ltB], d2, has_s (h.2 d d1).1, backB, d3, Option.bind_some, cond_true, cond_false, Bool.not_true]
        cases eqB x (i : Int) <;> cases (d.Neighbors.any fun y => eqB y (i : Int)) <;> rfl
      | succ k =>
        obtain ⟨y, hy, hi⟩ := ix_prev hk (by omega) (by omega)
        simp only [Nat.add_sub_cancel] at hy
        simp only [prevB, hy, hi, show ltB 0 ((k + 1 : Nat) : Int) = true from by simp [ltB], d2, has_s (h.2 d d1).1, backB, d3, Option.bind_some, cond_true, cond_false, Bool.not_true, id]
        cases eqB x (i : Int) <;> cases leB x y <;> cases (d.Neighbors.any fun y => eqB y (i : Int)) <;> rfl
  have hL : iter (sIsValidMap_L1 m) FU 0 = bif allI (vCell m) m.Cells then some (inR ((m.Cells.length : Nat) : Int) 1 6) else some false := by
    refine allI_ruleG m.Cells (vCell m) false _ (by omega) (fun k x hx hk => ?_) (by simp [sIsValidMap_L1, inr_s])
    have hm := List.mem_of_getElem? hx
    simp only [sIsValidMap_L1, ltB_lt hk, ix_nat, hx, inr_s, h2 k x hm hk, Option.bind_some, cond_true, vCell]
    cases inR x.Area 0 2 <;> cases allI (nbB m k x.Neighbors) x.Neighbors <;> rfl
  simp only [sIsValidMap, hL, vMap]
  cases inR ((m.Cells.length : Nat) : Int) 1 6 <;> cases allI (vCell m) m.Cells <;> rfl
end Go.AM
set_option linter.unusedVariables false
set_option linter.unusedSimpArgs false
namespace Go.AM
open Go.Proofs
attribute [local simp] ltB_self eqB_refl ix_nat
def idsB (d : TDevice) (s : TSession) : Bool := (eqB d.Card.ID.Network s.Record.ID.Network && (eqB d.Card.ID.Number s.Record.ID.Number && true)) && eqB d.Card.Key s.Record.Key
def memB (n : TNetwork) (i : Nat) (d : TDevice) : Bool := match n.Sessions[i]?, n.Accounts[i]? with
  | some s, some a => vDevice d && (vSession s && (vAccount a && (idsB d s && (cellB n.Map d.Cell && (cellB n.Map s.Cell && (eqB s.Usage.SessionID (i : Int) && vMatch a s.Usage))))))
  | _, _ => false
def flB (n : TNetwork) (f : TFlight) : Bool := inR f.Device 0 (((n.Devices.length : Nat) : Int) - 1) && cellB n.Map f.Cell
def endB (n : TNetwork) : Bool := inR n.DownCells 0 (WR ((bShl .i64 1 ((n.Map.Cells.length : Nat) : Int)) - 1)) && (inR n.Now 0 100000 && leB 0 n.Lost)
def vNetwork (n : TNetwork) : Bool := vMap n.Map && (vPool n.Core && (!eqB n.Core.UpMask 0 && (leB ((n.Devices.length : Nat) : Int) 4 && (eqB ((n.Sessions.length : Nat) : Int) ((n.Devices.length : Nat) : Int) && (eqB ((n.Accounts.length : Nat) : Int) ((n.Devices.length : Nat) : Int) &&
  (allI (memB n) n.Devices && (leB ((n.Flights.length : Nat) : Int) 200 && (n.Flights.all (flB n) && endB n))))))))
theorem cell_lt {m : TCellMap} {x : Int} {b : Int} (h : inR x 0 b = true) : cellB m x = ltB x ((m.Cells.length : Nat) : Int) := by
  rw [inR_iff] at h
  rw [Bool.eq_iff_iff]; simp [cellB, inR, leB, ltB]; omega
theorem flt_i {n : TNetwork} (h : okTNetwork n) : iter (iIsValidNetwork_L2 n) FU 0 = some (n.Flights.all (flB n) && endB n) := by
  have hl := h.2.2.2.2.1
  have := allI_rule (L := iIsValidNetwork_L2 n) n.Flights (fun _ f => flB n f) (some (endB n)) (by omega) (fun k x hx hk => by
    simp only [iIsValidNetwork_L2, ltB_lt hk, ix_nat, hx, WR_succ (show k < 9223372036854775807 by omega), inr_i, WR_pred h.2.1.1, cell_i h.1.1, Option.bind_some, cond_true, flB]
    cases inR x.Device 0 (((n.Devices.length : Nat) : Int) - 1) <;> cases cellB n.Map x.Cell <;> rfl) (by
    simp only [iIsValidNetwork_L2, ltB_self, cond_false, inr_i, Option.bind_some, endB, show leB 0 ((n.Map.Cells.length : Nat) : Int) = true from by simp [leB], cond_true]
    cases inR n.DownCells 0 (WR ((bShl .i64 1 ((n.Map.Cells.length : Nat) : Int)) - 1)) <;> cases inR n.Now 0 100000 <;> rfl)
  rw [this, allI_all]
  cases n.Flights.all (flB n) <;> rfl
theorem flt_s {n : TNetwork} (h : okTNetwork n) : iter (sIsValidNetwork_L2 n) FU 0 = some (n.Flights.all (flB n) && endB n) := by
  have hl := h.2.2.2.2.1
  have := allI_rule (L := sIsValidNetwork_L2 n) n.Flights (fun _ f => flB n f) (some (endB n)) (by omega) (fun k x hx hk => by
    simp only [sIsValidNetwork_L2, ltB_lt hk, ix_nat, hx, WR_succ (show k < 9223372036854775807 by omega), inr_s, WR_pred h.2.1.1, WR_pred h.1.1, Option.bind_some, cond_true, flB, cellB]
    cases inR x.Device 0 (((n.Devices.length : Nat) : Int) - 1) <;> cases inR x.Cell 0 (((n.Map.Cells.length : Nat) : Int) - 1) <;> rfl) (by
    simp only [sIsValidNetwork_L2, ltB_self, cond_false, inr_s, Option.bind_some, endB, show leB 0 ((n.Map.Cells.length : Nat) : Int) = true from by simp [leB], cond_true]
    cases inR n.DownCells 0 (WR ((bShl .i64 1 ((n.Map.Cells.length : Nat) : Int)) - 1)) <;> cases inR n.Now 0 100000 <;> rfl)
  rw [this, allI_all]
  cases n.Flights.all (flB n) <;> rfl
section
variable {n : TNetwork} (h : okTNetwork n) (e1 : n.Sessions.length = n.Devices.length) (e2 : n.Accounts.length = n.Devices.length)
include h e1 e2
omit h in
theorem at_i {k : Nat} (hk : k < n.Devices.length) : ∃ s a, s ∈ n.Sessions ∧ a ∈ n.Accounts ∧ n.Sessions[k]? = some s ∧ n.Accounts[k]? = some a :=
  ⟨n.Sessions[k]'(by omega), n.Accounts[k]'(by omega), List.getElem_mem _, List.getElem_mem _, List.getElem?_eq_getElem _, List.getElem?_eq_getElem _⟩
theorem mem_i {k : Nat} {d : TDevice} (hd : n.Devices[k]? = some d) : iisValidSubscriber n (k : Int) = some (memB n k d) := by
  have hk := (List.getElem?_eq_some_iff.1 hd).1
  obtain ⟨s, a, s1, a1, s2, a2⟩ := at_i e1 e2 hk
  have od := h.2.1.2 d (List.mem_of_getElem? hd)
  have os := h.2.2.1.2 s s1
  have oa := h.2.2.2.1.2 a a1
  simp only [iisValidSubscriber, ix_nat, hd, s2, a2, device_i od.2.1 od.1.1, session_i os, account_i oa, cell_i h.1.1, match_i oa, Option.bind_some, memB, idsB]
  cases vDevice d <;> cases vSession s <;> cases vAccount a <;> try rfl
  cases (eqB d.Card.ID.Network s.Record.ID.Network && (eqB d.Card.ID.Number s.Record.ID.Number && true)) <;> cases eqB d.Card.Key s.Record.Key <;> try rfl
  cases cellB n.Map d.Cell <;> cases cellB n.Map s.Cell <;> cases eqB s.Usage.SessionID (k : Int) <;> rfl
theorem mem_s {k : Nat} {d : TDevice} (hd : n.Devices[k]? = some d) : sl32Member n (k : Int) = some (memB n k d) := by
  have hk := (List.getElem?_eq_some_iff.1 hd).1
  obtain ⟨s, a, s1, a1, s2, a2⟩ := at_i e1 e2 hk
  have od := h.2.1.2 d (List.mem_of_getElem? hd)
  have os := h.2.2.1.2 s s1
  have oa := h.2.2.2.1.2 a a1
  simp only [sl32Member, ix_nat, hd, s2, a2, device_s od.2.1 od.1.1, session_s os, account_s oa, match_s oa, Option.bind_some, memB, idsB]
  cases hv : vDevice d
  · rfl
  cases hs : vSession s
  · rfl
  have c1 : cellB n.Map d.Cell = ltB d.Cell ((n.Map.Cells.length : Nat) : Int) := by
    simp only [vDevice, Bool.and_eq_true] at hv; exact cell_lt hv.2.2.1
  have c2 : cellB n.Map s.Cell = ltB s.Cell ((n.Map.Cells.length : Nat) : Int) := by
    simp only [vSession, Bool.and_eq_true] at hs; exact cell_lt hs.2.2.2.2.2.2.2.2.2.2.2.1
  rw [c1, c2]
  cases vAccount a <;> cases (eqB d.Card.ID.Network s.Record.ID.Network && (eqB d.Card.ID.Number s.Record.ID.Number && true)) <;> cases eqB d.Card.Key s.Record.Key <;> try rfl
  cases ltB d.Cell ((n.Map.Cells.length : Nat) : Int) <;> cases ltB s.Cell ((n.Map.Cells.length : Nat) : Int) <;> cases eqB s.Usage.SessionID (k : Int) <;> rfl
theorem mems_i : iter (iIsValidNetwork_L1 n) FU 0 = some (allI (memB n) n.Devices && (leB ((n.Flights.length : Nat) : Int) 200 && (n.Flights.all (flB n) && endB n))) := by
  have hl := h.2.1.1
  have := allI_rule (L := iIsValidNetwork_L1 n) n.Devices (memB n) (some (leB ((n.Flights.length : Nat) : Int) 200 && (n.Flights.all (flB n) && endB n))) (by omega) (fun k x hx hk => by
    simp only [iIsValidNetwork_L1, ltB_lt hk, mem_i h e1 e2 hx, WR_succ (show k < 9223372036854775807 by omega), Option.bind_some, cond_true]
    cases memB n k x <;> rfl) (by
    simp only [iIsValidNetwork_L1, ltB_self, cond_false, flt_i h, lt_le 200]
    cases leB ((n.Flights.length : Nat) : Int) 200 <;> rfl)
  rw [this]
  cases allI (memB n) n.Devices <;> rfl
theorem mems_s : iter (sIsValidNetwork_L1 n) FU 0 = some (allI (memB n) n.Devices && (n.Flights.all (flB n) && endB n)) := by
  have hl := h.2.1.1
  have := allI_rule (L := sIsValidNetwork_L1 n) n.Devices (memB n) (some (n.Flights.all (flB n) && endB n)) (by omega) (fun k x hx hk => by
    simp only [sIsValidNetwork_L1, ltB_lt hk, mem_s h e1 e2 hx, WR_succ (show k < 9223372036854775807 by omega), Option.bind_some, cond_true]
    cases memB n k x <;> rfl) (by simp only [sIsValidNetwork_L1, ltB_self, cond_false, flt_s h])
  rw [this]
  cases allI (memB n) n.Devices <;> rfl
end
theorem eqB_nat {a b : Nat} (h : eqB (a : Int) (b : Int) = true) : a = b := by
  have : (a : Int) = b := by simpa [eqB] using h
  omega
theorem network_i {n : TNetwork} (h : okTNetwork n) : iIsValidNetwork n = some (vNetwork n) := by
  simp only [iIsValidNetwork, map_i h.1, pool_i, Option.bind_some, vNetwork, lt_le 4]
  cases vMap n.Map <;> cases vPool n.Core <;> cases eqB n.Core.UpMask 0 <;> cases leB ((n.Devices.length : Nat) : Int) 4 <;> try rfl
  cases e1 : eqB ((n.Sessions.length : Nat) : Int) ((n.Devices.length : Nat) : Int) <;> cases e2 : eqB ((n.Accounts.length : Nat) : Int) ((n.Devices.length : Nat) : Int) <;> try rfl
  rw [mems_i h (eqB_nat e1) (eqB_nat e2)]; rfl
theorem network_s {n : TNetwork} (h : okTNetwork n) : sIsValidNetwork n = some (vNetwork n) := by
  simp only [sIsValidNetwork, map_s h.1, pool_s, Option.bind_some, vNetwork, lt_le 4, lt_le 200]
  cases vMap n.Map <;> cases vPool n.Core <;> cases eqB n.Core.UpMask 0 <;> cases leB ((n.Devices.length : Nat) : Int) 4 <;> try rfl
  cases e1 : eqB ((n.Sessions.length : Nat) : Int) ((n.Devices.length : Nat) : Int) <;> cases e2 : eqB ((n.Accounts.length : Nat) : Int) ((n.Devices.length : Nat) : Int) <;> try rfl
  rw [mems_s h (eqB_nat e1) (eqB_nat e2)]
  cases allI (memB n) n.Devices <;> cases leB ((n.Flights.length : Nat) : Int) 200 <;> rfl
end Go.AM
set_option linter.unusedVariables false
set_option linter.unusedSimpArgs false
namespace Go.AM
open Go.Proofs
attribute [local simp] ltB_self eqB_refl ix_nat
/-! what is drawn -/
theorem and_nn (x : Int) (m : Nat) (hm : m < 9223372036854775808) : 0 ≤ bAnd .i64 x (m : Int) ∧ bAnd .i64 x (m : Int) ≤ m := by
  unfold bAnd
  have h1 : (BitVec.ofInt IntKind.i64.bits x &&& BitVec.ofInt IntKind.i64.bits (m : Int)).toNat ≤ m := by
    rw [BitVec.toNat_and]
    refine Nat.le_trans Nat.and_le_right ?_
    show (BitVec.ofInt 64 (m : Int)).toNat ≤ m
    rw [BitVec.toNat_ofInt]
    omega
  rw [wrap_in (by omega)]
  omega
structure curOK (c : Tl1Cur) : Prop where
  l : c.fb.length ≤ 1048576
  u : ∀ x ∈ c.fb, okU8 x
  a : 0 ≤ c.fi
  b : c.fi ≤ c.fb.length
theorem byte_ok {c : Tl1Cur} (h : curOK c) : ∃ v c', sl1Byte c = some (v, c') ∧ 0 ≤ v ∧ v ≤ 255 ∧ curOK c' := by
  unfold sl1Byte
  have := h.l
  have ha := h.a
  have hb := h.b
  by_cases hi : c.fi < c.fb.length
  · obtain ⟨x, hx, e⟩ := ix_in h.a hi
    rw [show ltB c.fi ((c.fb.length : Nat) : Int) = true from by simp [ltB, hi]]
    simp only [cond_true, e, Option.bind_some]
    refine ⟨_, _, rfl, (and_nn _ 255 (by omega)).1, (and_nn _ 255 (by omega)).2, ⟨h.l, h.u, ?_, ?_⟩⟩
    · show 0 ≤ WR (c.fi + 1); rw [WR_in (by omega)]; omega
    · show WR (c.fi + 1) ≤ (c.fb.length : Int); rw [WR_in (by omega)]; omega
  · rw [show ltB c.fi ((c.fb.length : Nat) : Int) = false from by simp [ltB]; omega]
    simp only [cond_false, Option.bind_some]
    exact ⟨_, _, rfl, (and_nn _ 255 (by omega)).1, (and_nn _ 255 (by omega)).2, ⟨h.l, h.u, h.a, h.b⟩⟩
theorem tmod_in {v n : Int} (hv : 0 ≤ v) (hn : 0 < n) : 0 ≤ Int.tmod v n ∧ Int.tmod v n < n := by
  rw [Int.tmod_eq_emod_of_nonneg hv]
  exact ⟨Int.emod_nonneg _ (by omega), Int.emod_lt_of_pos _ hn⟩
theorem below_ok {c : Tl1Cur} (h : curOK c) {n : Int} (hn : 1 ≤ n) : ∃ v c', sl1Below c n = some (v, c') ∧ 0 ≤ v ∧ v < n ∧ curOK c' := by
  unfold sl1Below
  rw [show leB n 0 = false from by simp [leB]; omega]
  have hz : (!eqB n 0) = true := by simp [eqB]; omega
  simp only [cond_false, hz, cond_true]
  by_cases h2 : n ≤ 256
  · rw [show leB n 256 = true from by simp [leB, h2]]
    obtain ⟨v, c', e, h0, h1, hc⟩ := byte_ok h
    have := tmod_in h0 (show 0 < n by omega)
    simp only [cond_true, e, Option.bind_some]
    exact ⟨_, _, rfl, this.1, this.2, hc⟩
  · rw [show leB n 256 = false from by simp [leB]; omega]
    obtain ⟨v, c1, e, h0, h1, hc⟩ := byte_ok h
    obtain ⟨v2, c2, e2, h02, h12, hc2⟩ := byte_ok hc
    obtain ⟨v3, c3, e3, h03, h13, hc3⟩ := byte_ok hc2
    simp only [cond_false, e, e2, e3, Option.bind_some]
    rw [WR_in (n := v * 65536) (by omega), WR_in (n := v2 * 256) (by omega), WR_in (n := v * 65536 + v2 * 256) (by omega), WR_in (n := v * 65536 + v2 * 256 + v3) (by omega)]
    have := tmod_in (v := v * 65536 + v2 * 256 + v3) (by omega) (show 0 < n by omega)
    exact ⟨_, _, rfl, this.1, this.2, hc3⟩
theorem once_ok {c : Tl1Cur} (h : curOK c) {n : Int} (hn : 1 ≤ n) : ∃ v c', sl1Once c n = some (v, c') ∧ curOK c' := by
  obtain ⟨v, c', e, _, _, hc⟩ := below_ok h hn
  exact ⟨_, _, by rw [sl1Once, e]; rfl, hc⟩
theorem new_ok {xs : List Int} (hl : xs.length ≤ 1048576) (hu : ∀ x ∈ xs, okU8 x) : ∃ c, sl1New xs = some c ∧ curOK c ∧ c.fb = xs := by
  have key : ∀ (m n k : Nat) (v : Int), m = xs.length - k → k ≤ xs.length → m < n → ∃ r, iter (sl1New_L1 xs) n (v, (k : Int)) = some r := by
    intro m
    induction m with
    | zero =>
      intro n k v hm hk hn
      cases n with
      | zero => omega
      | succ n =>
        have : k = xs.length := by omega
        subst this
        exact ⟨v, by rw [iter]; simp [sl1New_L1]⟩
    | succ m ih =>
      intro n k v hm hk hn
      cases n with
      | zero => omega
      | succ n =>
        have hlt : k < xs.length := by omega
        rw [iter]
        simp only [sl1New_L1, ltB_lt hlt, cond_true, Option.bind_some, ix_nat, List.getElem?_eq_getElem hlt, WR_succ (show k < 9223372036854775807 by omega)]
        cases ltB (k : Int) 4000
        · exact ⟨v, rfl⟩
        · exact ih n (k + 1) _ (by omega) (by omega) (by omega)
  obtain ⟨r, hr⟩ := key xs.length FU 0 (WR (193017 + ((xs.length : Nat) : Int))) (by omega) (by omega) (by have := FU_big; omega)
  refine ⟨⟨xs, 0, r⟩, ?_, ⟨hl, hu, Int.le_refl 0, Int.natCast_nonneg _⟩, rfl⟩
  rw [sl1New, show iter (sl1New_L1 xs) FU (WR (193017 + ((xs.length : Nat) : Int)), 0) = some r from hr]
  rfl
end Go.AM
namespace Go.AM
attribute [local simp] ltB_self eqB_refl ix_nat
theorem wBelow {c : Tl1Cur} (h : curOK c) {n : Int} (hn : 1 ≤ n) : Wp (sl1Below c n) (fun r => curOK r.2 ∧ 0 ≤ r.1 ∧ r.1 < n) := by
  obtain ⟨v, c', e, h0, h1, hc⟩ := below_ok h hn
  exact Wp.of e ⟨hc, h0, h1⟩
theorem wOnce {c : Tl1Cur} (h : curOK c) {n : Int} (hn : 1 ≤ n) : Wp (sl1Once c n) (fun r => curOK r.2) := by
  obtain ⟨v, c', e, hc⟩ := once_ok h hn
  exact Wp.of e hc
theorem wInt {c : Tl1Cur} (h : curOK c) {xs : List Int} (hx : xs ≠ []) : Wp (sl1Int c xs) (fun r => curOK r.2 ∧ r.1 ∈ xs) := by
  have hl : 0 < xs.length := List.length_pos_iff.2 hx
  unfold sl1Int
  refine Wp.call (wBelow h (by omega)) fun r hr => ?_
  exact Wp.ix hr.2.1 hr.2.2 fun x hm _ => Wp.some ⟨hr.1, hm⟩
theorem wWho {c : Tl1Cur} (h : curOK c) : Wp (sl4Who c) (fun r => curOK r.2) := by
  unfold sl4Who
  exact Wp.call (wBelow h (by omega)) fun r hr => Wp.call (wBelow hr.1 (by omega)) fun r2 hr2 => Wp.some hr2.1
theorem w4Any {c : Tl1Cur} (h : curOK c) : Wp (sl4Any c) (fun r => curOK r.2) := by
  unfold sl4Any
  refine Wp.call (wWho h) fun r hr => Wp.call (wBelow hr (by omega)) fun r2 hr2 => ?_
  refine Wp.call (P := fun x => curOK ⟨x.1, x.2.1, x.2.2.1⟩) ?_ fun x hx => Wp.some hx
  refine Wp.cond (fun _ => ?_) (fun _ => ?_)
  · exact Wp.call (wInt hr2.1 (by simp)) fun r8 h8 => Wp.some h8.1
  · refine Wp.call (P := fun x => curOK ⟨x.1, x.2.1, x.2.2.1⟩) ?_ fun x hx => Wp.some hx
    exact Wp.cond (fun _ => Wp.call (wInt hr2.1 (by simp)) fun r8 h8 => Wp.some h8.1) (fun _ => Wp.some hr2.1)
theorem wPlan {c : Tl1Cur} (h : curOK c) : Wp (sl20Plan c) (fun r => curOK r.2 ∧ r.1.RoamingNetworks.length ≤ 4) := by
  unfold sl20Plan
  refine Wp.call (wBelow h (by omega)) fun r1 h1 => Wp.call (wBelow h1.1 (by omega)) fun r2 h2 => Wp.call (wBelow h2.1 (by omega)) fun r3 h3 => ?_
  refine Wp.call (P := fun x => curOK ⟨x.1, x.2.1, x.2.2.1⟩ ∧ x.2.2.2.length ≤ 4) ?_ fun x hx => Wp.some hx
  refine Wp.iterF (fun x => (0 ≤ x.1 ∧ x.1 ≤ 4) ∧ curOK ⟨x.2.1, x.2.2.1, x.2.2.2.1⟩ ∧ (x.2.2.2.2.length : Int) ≤ x.1) (fun x => (4 - x.1).toNat) ⟨⟨by omega, by omega⟩, h3.1, by simp⟩ (by simp) ?_
  rintro ⟨v4, v5, v6, v7, v8⟩ ⟨⟨i0, i1⟩, i2, i3⟩
  simp only at i0 i1 i2 i3
  simp only [sl20Plan_L1]
  refine Wp.cond (fun hb => ?_) (fun hb => Wp.some ⟨i2, by show v8.length ≤ 4; omega⟩)
  have hb := ltBt hb
  refine Wp.call (wOnce i2 (by omega)) fun r15 h15 => ?_
  refine Wp.call (P := fun x => (x.length : Int) ≤ v4 + 1) ?_ fun x hx => Wp.some ⟨⟨⟨?_, ?_⟩, h15, ?_⟩, ?_⟩
  · exact Wp.cond (fun _ => Wp.ok (apOk_in (by simp; omega) (by simp; omega)) (Wp.some (by simp; omega))) (fun _ => Wp.some (by omega))
  all_goals simp only [WR_in (show -9223372036854775808 ≤ v4 + 1 ∧ v4 + 1 ≤ 9223372036854775807 by omega)]
  all_goals omega
theorem w20Any {c : Tl1Cur} (h : curOK c) : Wp (sl20Any c) (fun r => curOK r.2 ∧ r.1.RoamingNetworks.length ≤ 5) := by
  unfold sl20Any
  refine Wp.call (wPlan h) fun r1 h1 => Wp.call (wBelow h1.1 (by omega)) fun r2 h2 => ?_
  have hl := h1.2
  refine Wp.call (P := fun x => curOK ⟨x.1, x.2.1, x.2.2.1⟩ ∧ x.2.2.2.2.2.2.length ≤ 5) ?_ fun x hx => Wp.some hx
  refine Wp.cond (fun _ => Wp.call (wInt h2.1 (by simp)) fun r8 h8 => Wp.some ⟨h8.1, by show _ ≤ 5; simp only; omega⟩) (fun _ => ?_)
  refine Wp.call (P := fun x => curOK ⟨x.1, x.2.1, x.2.2.1⟩ ∧ x.2.2.2.2.2.length ≤ 5) ?_ fun x hx => Wp.some hx
  refine Wp.cond (fun _ => Wp.call (wInt h2.1 (by simp)) fun r8 h8 => Wp.some ⟨h8.1, by show _ ≤ 5; simp only; omega⟩) (fun _ => ?_)
  refine Wp.call (P := fun x => curOK ⟨x.1, x.2.1, x.2.2.1⟩ ∧ x.2.2.2.2.length ≤ 5) ?_ fun x hx => Wp.some hx
  refine Wp.cond (fun _ => Wp.call (wBelow h2.1 (by omega)) fun r8 h8 => Wp.ok (apOk_in (by simp; omega) (by simp; omega)) (Wp.some ⟨h8.1, by simp; omega⟩)) (fun _ => ?_)
  refine Wp.call (P := fun x => curOK ⟨x.1, x.2.1, x.2.2.1⟩) ?_ fun x hx => Wp.some ⟨hx, by show _ ≤ 5; simp only; omega⟩
  exact Wp.cond (fun _ => Wp.call (wInt h2.1 (by simp)) fun r8 h8 => Wp.some h8.1) (fun _ => Wp.some h2.1)
end Go.AM
set_option linter.unusedVariables false
set_option linter.unusedSimpArgs false
namespace Go.AM
open Go.Proofs
attribute [local simp] ltB_self eqB_refl ix_nat
theorem wHas {l : List Int} (h : l.length ≤ 1048576) (v : Int) : Wp (sl10Has l v) (fun _ => True) := by rw [has_s h v]; exact Wp.some trivial
theorem set_all {α : Type} {P : α → Prop} {xs : List α} {i : Nat} {a : α} (h : ∀ x ∈ xs, P x) (ha : P a) : ∀ x ∈ xs.set i a, P x := fun x hx => by
  rcases List.mem_or_eq_of_mem_set hx with h' | h'
  · exact h x h'
  · rw [h']; exact ha
theorem wJoin {v : List (Int × List Int)} {a b : Int} {B : Nat} (hB : B ≤ 1000) (hv : ∀ e ∈ v, e.2.length ≤ B) (a0 : 0 ≤ a) (a1 : a < v.length) (b0 : 0 ≤ b) (b1 : b < v.length) : Wp (sl10Join v a b) (fun r => r.length = v.length ∧ ∀ e ∈ r, e.2.length ≤ B + 2) := by
  unfold sl10Join
  refine Wp.ix a0 a1 fun x hx _ => ?_
  have h1 := hv x hx
  refine Wp.ok (apOk_in (by simp; omega) (by simp; omega)) ?_
  have hs : ∀ e ∈ v.set a.toNat (x.1, x.2 ++ [b]), e.2.length ≤ B + 1 := set_all (fun e he => by have := hv e he; omega) (by simp; omega)
  refine Wp.ix b0 (by simpa using b1) fun y hy _ => ?_
  have h2 := hs y hy
  refine Wp.ok (apOk_in (by simp; omega) (by simp; omega)) (Wp.some ⟨by simp, set_all (fun e he => by have := hs e he; omega) (by simp; omega)⟩)
theorem wDrawX {c : Tl1Cur} (h : curOK c) : Wp (sl10DrawX c) (fun r => curOK r.2 ∧ (2 ≤ r.1.length ∧ r.1.length ≤ 5) ∧ ∀ e ∈ r.1, e.2.length ≤ 200) := by
  unfold sl10DrawX
  refine Wp.call (wBelow h (by omega)) fun r1 h1 => ?_
  obtain ⟨n, hn⟩ : ∃ n : Int, n = WR (2 + r1.1) := ⟨_, rfl⟩
  have hn1 : n = 2 + r1.1 := by rw [hn, WR_in (by omega)]
  refine Wp.call (P := fun x => curOK ⟨x.1, x.2.1, x.2.2.1⟩ ∧ (x.2.2.2.length : Int) = n) ?_ ?_
  · refine Wp.iterF (fun x => (0 ≤ x.1 ∧ x.1 ≤ n) ∧ curOK ⟨x.2.1, x.2.2.1, x.2.2.2.1⟩ ∧ (x.2.2.2.2.length : Int) = x.1) (fun x => (n - x.1).toNat) ⟨⟨by simp only; omega, by simp only; omega⟩, h1.1, by simp⟩ (by simp only; omega) ?_
    rintro ⟨v2, v3, v4, v5, v6⟩ ⟨⟨i0, i1⟩, i2, i3⟩
    simp only at i0 i1 i2 i3
    simp only [sl10Draw_L1, ← hn]
    refine Wp.cond (fun hb => ?_) (fun hb => Wp.some ⟨i2, by have := ltBf hb; show (v6.length : Int) = n; omega⟩)
    have hb := ltBt hb
    refine Wp.call (wBelow i2 (by omega)) fun r12 h12 => Wp.ok (apOk_in (by simp; omega) (by simp; omega)) (Wp.some ⟨⟨⟨?_, ?_⟩, h12.1, ?_⟩, ?_⟩)
    all_goals simp only [WR_in (show -9223372036854775808 ≤ v2 + 1 ∧ v2 + 1 ≤ 9223372036854775807 by omega)]
    · omega
    · omega
    · simp; omega
    · omega
  rintro ⟨v8, v9, v10, v11⟩ ⟨hc, hl⟩
  simp only at hc hl
  refine Wp.call (P := fun x => curOK ⟨x.1, x.2.1, x.2.2.1⟩ ∧ (x.2.2.2.length : Int) = n ∧ ∀ e ∈ x.2.2.2, e.2.length ≤ 200) ?_ ?_
  · refine Wp.iterF (fun x => (1 ≤ x.1 ∧ x.1 ≤ n) ∧ curOK ⟨x.2.1, x.2.2.1, x.2.2.2.1⟩ ∧ (x.2.2.2.2.length : Int) = n ∧ ∀ e ∈ x.2.2.2.2, e.2.length ≤ 20 * x.1.toNat) (fun x => (n - x.1).toNat) ⟨⟨by simp only; omega, by simp only; omega⟩, hc, by simpa using hl, by simp⟩ (by simp only; omega) ?_
    rintro ⟨v13, v14, v15, v16, v17⟩ ⟨⟨i0, i1⟩, i2, i3, i4⟩
    simp only at i0 i1 i2 i3 i4
    simp only [sl10Draw_L2, ← hn]
    refine Wp.cond (fun hb => ?_) (fun hb => Wp.some ⟨i2, i3, fun e he => by have := i4 e he; show e.2.length ≤ 200; omega⟩)
    have hb := ltBt hb
    refine Wp.call (P := fun x => curOK ⟨x.1, x.2.1, x.2.2.1⟩ ∧ (x.2.2.2.length : Int) = n ∧ ∀ e ∈ x.2.2.2, e.2.length ≤ 20 * v13.toNat + 2 * v13.toNat) ?_ ?_
    · refine Wp.iterF (fun x => (0 ≤ x.1 ∧ x.1 ≤ v13) ∧ curOK ⟨x.2.1, x.2.2.1, x.2.2.2.1⟩ ∧ (x.2.2.2.2.length : Int) = n ∧ ∀ e ∈ x.2.2.2.2, e.2.length ≤ 20 * v13.toNat + 2 * x.1.toNat) (fun x => (v13 - x.1).toNat) ⟨⟨by simp only; omega, by simp only; omega⟩, i2, i3, by simpa using i4⟩ (by simp only; omega) ?_
      rintro ⟨v43, v44, v45, v46, v47⟩ ⟨⟨j0, j1⟩, j2, j3, j4⟩
      simp only at j0 j1 j2 j3 j4
      simp only [sl10Draw_L3]
      refine Wp.cond (fun hc => ?_) (fun hc => Wp.some ⟨j2, j3, fun e he => by have := j4 e he; have := ltBf hc; show e.2.length ≤ _; omega⟩)
      have hc := ltBt hc
      refine Wp.call (P := fun x => curOK ⟨x.2.1, x.2.2.1, x.2.2.2⟩) ?_ ?_
      · refine Wp.cond (fun _ => Wp.call (wOnce j2 (by omega)) fun r62 h62 => ?_) (fun _ => Wp.call (wOnce j2 (by omega)) fun r64 h64 => Wp.some h64)
        exact Wp.cond (fun _ => Wp.some h62) (fun _ => Wp.call (wOnce h62 (by omega)) fun r63 h63 => Wp.some h63)
      rintro ⟨v58, v59, v60, v61⟩ hc2
      refine Wp.call (P := fun x => (x.length : Int) = n ∧ ∀ e ∈ x, e.2.length ≤ 20 * v13.toNat + 2 * v43.toNat + 2) ?_ ?_
      · refine Wp.cond (fun _ => Wp.call (wJoin (B := 20 * v13.toNat + 2 * v43.toNat) (by omega) j4 (by omega) (by omega) (by omega) (by omega)) fun r65 h65 => Wp.some ⟨by rw [h65.1]; exact j3, h65.2⟩) (fun _ => Wp.some ⟨j3, fun e he => by have := j4 e he; omega⟩)
      intro v62 h62
      refine Wp.some ⟨⟨⟨?_, ?_⟩, hc2, h62.1, fun e he => ?_⟩, ?_⟩
      all_goals simp only [WR_in (show -9223372036854775808 ≤ v43 + 1 ∧ v43 + 1 ≤ 9223372036854775807 by omega)]
      · omega
      · omega
      · have := h62.2 e he; omega
      · omega
    · rintro ⟨v55, v56, v57, v58⟩ ⟨k1, k2, k3⟩
      simp only at k1 k2 k3
      refine Wp.some ⟨⟨⟨?_, ?_⟩, k1, k2, fun e he => ?_⟩, ?_⟩
      all_goals simp only [WR_in (show -9223372036854775808 ≤ v13 + 1 ∧ v13 + 1 ≤ 9223372036854775807 by omega)]
      · omega
      · omega
      · have := k3 e he; omega
      · omega
  rintro ⟨v40, v41, v42, v43⟩ ⟨hc, hl, hb⟩
  simp only at hc hl hb
  refine Wp.call (P := fun x => (x.length : Int) = n ∧ ∀ e ∈ x, e.2.length ≤ 200) ?_ fun v78 h78 => Wp.some ⟨hc, by have := h78.1; show 2 ≤ v78.length ∧ v78.length ≤ 5; omega, h78.2⟩
  refine Wp.iterF (fun x => (0 ≤ x.1 ∧ x.1 ≤ n) ∧ (x.2.length : Int) = n ∧ ∀ e ∈ x.2, e.2.length ≤ 200) (fun x => (n - x.1).toNat) ⟨⟨by simp only; omega, by simp only; omega⟩, hl, hb⟩ (by simp only; omega) ?_
  rintro ⟨v66, v67⟩ ⟨⟨i0, i1⟩, i3, i4⟩
  simp only at i0 i1 i3 i4
  simp only [sl10Draw_L4, ← hn]
  refine Wp.cond (fun hb => ?_) (fun hb => Wp.some ⟨i3, i4⟩)
  have hb := ltBt hb
  refine Wp.call (P := fun x => (x.length : Int) ≤ n) ?_ ?_
  · refine Wp.iterF (fun x => (0 ≤ x.1 ∧ x.1 ≤ n) ∧ (x.2.length : Int) ≤ x.1) (fun x => (n - x.1).toNat) ⟨⟨by simp only; omega, by simp only; omega⟩, by simp⟩ (by simp only; omega) ?_
    rintro ⟨v79, v80⟩ ⟨⟨j0, j1⟩, j2⟩
    simp only at j0 j1 j2
    simp only [sl10Draw_L5, ← hn]
    refine Wp.cond (fun hc => ?_) (fun hc => Wp.some (by show (v80.length : Int) ≤ n; omega))
    have hc := ltBt hc
    refine Wp.ix (by omega) (by omega) fun x hx _ => ?_
    refine Wp.call (wHas (by have := i4 x hx; omega) _) fun r86 _ => ?_
    refine Wp.call (P := fun x => (x.length : Int) ≤ v79 + 1) ?_ fun x hx => Wp.some ⟨⟨⟨?_, ?_⟩, ?_⟩, ?_⟩
    · exact Wp.cond (fun _ => Wp.ok (apOk_in (by simp; omega) (by simp; omega)) (Wp.some (by simp; omega))) (fun _ => Wp.some (by omega))
    all_goals simp only [WR_in (show -9223372036854775808 ≤ v79 + 1 ∧ v79 + 1 ≤ 9223372036854775807 by omega)]
    all_goals omega
  · intro v84 h84
    refine Wp.ix (by omega) (by omega) fun x hx _ => Wp.some ⟨⟨⟨?_, ?_⟩, by simpa using i3, set_all i4 (by show v84.length ≤ 200; omega)⟩, ?_⟩
    all_goals simp only [WR_in (show -9223372036854775808 ≤ v66 + 1 ∧ v66 + 1 ≤ 9223372036854775807 by omega)]
    all_goals omega
theorem okMap_of {v : List (Int × List Int)} (h1 : v.length ≤ 5) (h2 : ∀ e ∈ v, e.2.length ≤ 1000) : okTCellMap (⟨v.map fun e => (⟨e.1, e.2⟩ : TCell)⟩ : TCellMap) := by
  refine ⟨by show (v.map _).length ≤ _; simp; omega, fun x hx => ?_⟩
  obtain ⟨e, he, rfl⟩ := List.mem_map.1 hx
  exact ⟨by have := h2 e he; show e.2.length ≤ _; omega, fun _ _ => trivial⟩
theorem w10Any {c : Tl1Cur} (h : curOK c) : Wp (sl10Any c) (fun r => curOK r.2 ∧ okTCellMap r.1) := by
  unfold sl10Any
  refine Wp.call (wDrawX h) ?_
  rintro ⟨v, c1⟩ ⟨k1, k2, k3⟩
  simp only at k1 k2 k3
  have hm := okMap_of (v := v) (by omega) (fun e he => by have := k3 e he; omega)
  refine Wp.call (wBelow k1 (n := (v.length : Int)) (by omega)) fun r2 h2 => Wp.call (wBelow h2.1 (by omega)) fun r3 h3 => ?_
  refine Wp.call (P := fun x => curOK ⟨x.2.1, x.2.2.1, x.2.2.2⟩ ∧ okTCellMap ⟨x.1⟩) ?_ fun x hx => Wp.some hx
  have i0 := h2.2.1
  have i1 : r2.1 < ((v.map fun e => (⟨e.1, e.2⟩ : TCell)).length : Nat) := by simpa using h2.2.2
  refine Wp.cond (fun _ => Wp.call (wInt h3.1 (by simp)) fun r4 h4 => Wp.ix i0 i1 fun x hx _ => Wp.some ⟨h4.1, ?_⟩) (fun _ => ?_)
  · exact ⟨by have := hm.1; simpa using this, set_all hm.2 (hm.2 x hx)⟩
  refine Wp.cond (fun _ => Wp.ix i0 h2.2.2 fun x hx _ => Wp.call (wBelow h3.1 (by omega)) fun r4 h4 => ?_) (fun _ => ?_)
  · have := k3 x hx
    refine Wp.ok (apOk_in (by simp; omega) (by simp; omega)) (Wp.some ⟨h4.1, okMap_of (by simp; omega) (set_all (fun e he => by have := k3 e he; omega) (by simp; omega))⟩)
  refine Wp.cond (fun _ => Wp.ix i0 i1 fun x hx _ => Wp.some ⟨h3.1, ?_⟩) (fun _ => ?_)
  · exact ⟨by have := hm.1; simpa using this, set_all hm.2 ⟨by simp, by simp⟩⟩
  exact Wp.cond (fun _ => Wp.some ⟨h3.1, ⟨by simp, by simp⟩⟩) (fun _ => Wp.some ⟨h3.1, hm⟩)
theorem wKey {c : Tl1Cur} (h : curOK c) : Wp (sl5Key c) (fun r => curOK r.2) := by
  unfold sl5Key
  exact Wp.call (wBelow h (by omega)) fun r1 h1 => Wp.some h1.1
theorem w32Subscribers {c : Tl1Cur} (h : curOK c) : Wp (sl32Subscribers c) (fun r => curOK r.2 ∧ 1 ≤ r.1.length ∧ r.1.length ≤ 3) := by
  unfold sl32Subscribers
  refine Wp.call (wBelow h (by omega)) fun r1 h1 => ?_
  have hw : WR (1 + r1.1) = 1 + r1.1 := WR_in (by omega)
  refine Wp.call (P := fun x => curOK ⟨x.1, x.2.1, x.2.2.1⟩ ∧ (x.2.2.2.length : Int) = 1 + r1.1) ?_ fun x hx => Wp.some ⟨hx.1, by have := hx.2; show 1 ≤ x.2.2.2.length ∧ x.2.2.2.length ≤ 3; omega⟩
  refine Wp.iterF (fun x => 0 ≤ x.1 ∧ curOK ⟨x.2.1, x.2.2.1, x.2.2.2.1⟩ ∧ (x.2.2.2.2.length : Int) + x.1 = 1 + r1.1) (fun x => x.1.toNat) ⟨by rw [hw]; omega, h1.1, by rw [hw]; simp⟩ (by simp only; rw [hw]; omega) ?_
  rintro ⟨v2, v3, v4, v5, v6⟩ ⟨i0, i2, i3⟩
  simp only at i0 i2 i3
  simp only [sl32Subscribers_L1]
  refine Wp.cond (fun hb => ?_) (fun hb => Wp.some ⟨i2, by have := ltBf hb; show (v6.length : Int) = _; omega⟩)
  have hb := ltBt hb
  refine Wp.call (wKey i2) fun r13 h13 => Wp.call (wBelow h13 (by omega)) fun r14 h14 => Wp.ok (apOk_in (by simp; omega) (by simp; omega)) (Wp.some ⟨⟨?_, h14.1, ?_⟩, ?_⟩)
  all_goals simp only [WR_in (show -9223372036854775808 ≤ v2 - 1 ∧ v2 - 1 ≤ 9223372036854775807 by omega)]
  · omega
  · simp; omega
  · omega
theorem w6Card {c : Tl1Cur} (h : curOK c) : Wp (sl6Card c) (fun r => curOK r.2) := by
  unfold sl6Card
  exact Wp.call (wWho h) fun r1 h1 => Wp.call (wKey h1) fun r2 h2 => Wp.call (wBelow h2 (by omega)) fun r3 h3 => Wp.some h3.1
theorem w6Pair {c : Tl1Cur} (h : curOK c) : Wp (sl6Pair c) (fun r => curOK r.2.2) := by
  unfold sl6Pair
  refine Wp.call (w6Card h) fun r1 h1 => Wp.call (wBelow h1 (by omega)) fun r2 h2 => Wp.call (wBelow h2.1 (by omega)) fun r3 h3 => ?_
  refine Wp.call (P := fun x => curOK ⟨x.1, x.2.1, x.2.2.1⟩) ?_ fun x hx => Wp.some hx
  refine Wp.cond (fun _ => Wp.call (wInt h3.1 (by simp)) fun r9 h9 => Wp.some h9.1) (fun _ => ?_)
  refine Wp.call (P := fun x => curOK ⟨x.1, x.2.1, x.2.2.1⟩) ?_ fun x hx => Wp.some hx
  exact Wp.cond (fun _ => Wp.call (wInt h3.1 (by simp)) fun r9 h9 => Wp.some h9.1) (fun _ => Wp.some h3.1)
theorem w6Any {c : Tl1Cur} (h : curOK c) : Wp (sl6Any c) (fun r => curOK r.2.2) := by
  unfold sl6Any
  refine Wp.call (w6Pair h) fun r1 h1 => Wp.call (wBelow h1 (by omega)) fun r2 h2 => ?_
  refine Wp.call (P := fun x => curOK ⟨x.1, x.2.1, x.2.2.1⟩) ?_ fun x hx => Wp.some hx
  refine Wp.cond (fun _ => Wp.call (wInt h2.1 (by simp)) fun r9 h9 => Wp.some h9.1) (fun _ => ?_)
  refine Wp.call (P := fun x => curOK ⟨x.1, x.2.1, x.2.2.1⟩) ?_ fun x hx => Wp.some hx
  refine Wp.cond (fun _ => Wp.call (wInt h2.1 (by simp)) fun r9 h9 => Wp.some h9.1) (fun _ => ?_)
  refine Wp.call (P := fun x => curOK ⟨x.1, x.2.1, x.2.2.1⟩) ?_ fun x hx => Wp.some hx
  refine Wp.cond (fun _ => Wp.call (wInt h2.1 (by simp)) fun r9 h9 => Wp.some h9.1) (fun _ => ?_)
  refine Wp.call (P := fun x => curOK ⟨x.1, x.2.1, x.2.2.1⟩) ?_ fun x hx => Wp.some hx
  refine Wp.cond (fun _ => Wp.call (wInt h2.1 (by simp)) fun r9 h9 => Wp.some h9.1) (fun _ => ?_)
  refine Wp.call (P := fun x => curOK ⟨x.1, x.2.1, x.2.2.1⟩) ?_ fun x hx => Wp.some hx
  exact Wp.cond (fun _ => Wp.call (w4Any h2.1) fun r9 h9 => Wp.some h9) (fun _ => Wp.some h2.1)
end Go.AM
set_option linter.unusedVariables false
set_option linter.unusedSimpArgs false
namespace Go.AM
open Go.Proofs
attribute [local simp] ltB_self eqB_refl ix_nat
theorem wDrawNewNetwork {xs : List Int} (hl : xs.length ≤ 1048576) (hu : ∀ x ∈ xs, okU8 x) : Wp (sDrawNewNetwork xs) (fun r => okTCellMap r.1 ∧ r.2.1.length ≤ 6 ∧ r.2.2.1.RoamingNetworks.length ≤ 5) := by
  unfold sDrawNewNetwork
  obtain ⟨c, e, hc, _⟩ := new_ok hl hu
  refine Wp.eq e ?_
  refine Wp.call (w10Any hc) fun r2 h2 => Wp.call (w32Subscribers h2.1) fun r3 h3 => Wp.call (wBelow h3.1 (by omega)) fun r4 h4 => ?_
  have h31 := h3.2.1
  have h32 := h3.2.2
  refine Wp.call (P := fun x => curOK ⟨x.2.1, x.2.2.1, x.2.2.2⟩ ∧ x.1.length ≤ 6) ?_ ?_
  · refine Wp.cond (fun _ => Wp.ix (by omega) (by omega) fun x9 _ _ => Wp.ok (apOk_in (by simp; omega) (by simp; omega)) (Wp.some ⟨h4.1, by simp; omega⟩)) (fun _ => ?_)
    refine Wp.call (P := fun x => curOK ⟨x.2.1, x.2.2.1, x.2.2.2⟩ ∧ x.1.length ≤ 6) ?_ fun x hx => Wp.some hx
    refine Wp.cond (fun _ => Wp.call (w6Any h4.1) fun r14 h14 => Wp.ok (apOk_in (by simp; omega) (by simp; omega)) (Wp.some ⟨h14, by simp; omega⟩)) (fun _ => ?_)
    refine Wp.call (P := fun x => x.length ≤ 6) ?_ fun x hx => Wp.some ⟨h4.1, hx⟩
    refine Wp.cond (fun _ => Wp.call (P := fun x => x.length ≤ 6) ?_ fun x hx => Wp.some hx) (fun _ => Wp.some (by omega))
    refine Wp.iterF (fun x => (0 ≤ x.1 ∧ x.1 ≤ 3) ∧ (x.2.length : Int) ≤ 3 + x.1) (fun x => (3 - x.1).toNat) ⟨⟨by simp only; omega, by simp only; omega⟩, by simp only; omega⟩ (by simp only; omega) ?_
    rintro ⟨v16, v17⟩ ⟨⟨i0, i1⟩, i2⟩
    simp only at i0 i1 i2
    simp only [sDrawNewNetwork_L1]
    refine Wp.cond (fun hb => ?_) (fun hb => Wp.some (by show v17.length ≤ 6; omega))
    have hb := ltBt hb
    refine Wp.ok (apOk_in (by simp; omega) (by simp; omega)) (Wp.some ⟨⟨⟨?_, ?_⟩, ?_⟩, ?_⟩)
    all_goals simp only [WR_in (show -9223372036854775808 ≤ v16 + 1 ∧ v16 + 1 ≤ 9223372036854775807 by omega)]
    · omega
    · omega
    · simp; omega
    · omega
  · rintro ⟨v5, v6, v7, v8⟩ ⟨k1, k2⟩
    simp only at k1 k2
    exact Wp.call (w20Any k1) fun r19 h19 => Wp.call (wInt h19.1 (by simp)) fun r20 h20 => Wp.some ⟨h2.2, k2, h19.2⟩
/-! the new network -/
theorem allI_ruleS {α τ ρ : Type} {L : τ → Option (Step τ ρ)} (mk : Nat → τ) (xs : List α) (p : Nat → α → Bool) (f : ρ) (c : Option ρ) (hl : xs.length ≤ 9223372036854775806)
    (hs : ∀ (k : Nat) (x : α), xs[k]? = some x → k < xs.length → L (mk k) = bif p k x then some (.next (mk (k + 1))) else some (.done f)) (he : L (mk xs.length) = dn c) :
    iter L FU (mk 0) = bif allI p xs then c else some f := by
  have := iter_for (step := L) xs.zipIdx (fun k (_ : Unit) => mk k) (fun _ y => bif p y.2 y.1 then some (.next ()) else some (.done f)) (fun _ => c) (by simpa using hl)
    (fun k y s hy hk => by
      have hk' : k < xs.length := by simpa using hk
      have : y = (xs[k], k) := by rw [List.getElem?_eq_getElem hk] at hy; simpa using hy.symm
      subst this
      rw [hs k xs[k] (List.getElem?_eq_getElem hk') hk']; cases p k xs[k] <;> rfl) (fun s => by rw [List.length_zipIdx, he]) ()
  refine Eq.trans (show iter L FU (mk 0) = _ from this) ?_
  have key : ∀ ys : List (α × Nat), forL (fun (_ : Unit) y => bif p y.2 y.1 then some (.next ()) else some (Step.done f)) (fun _ => c) ys () = bif ys.all (fun y => p y.2 y.1) then c else some f := by
    intro ys
    induction ys with
    | nil => rfl
    | cons x xs ih => rw [forL]; cases hp : p x.2 x.1 <;> simp [hp, ih]
  exact key _
theorem allI_true {α : Type} (xs : List α) : allI (fun _ _ => true) xs = true := allI_iff.2 fun _ _ _ => rfl
theorem cpL_self {α : Type} (z : α) (xs : List α) : cpL (List.replicate (((xs.length : Nat) : Int)).toNat z) xs = xs := by simp [cpL]
theorem icopyInts_eq {xs : List Int} (hl : xs.length ≤ 1048576) : icopyInts xs = some xs := by
  have hm : mkOk 8 ((xs.length : Nat) : Int) ((xs.length : Nat) : Int) = true := by simp only [mkOk, decide_eq_true_eq]; omega
  rw [icopyInts, hm, cpL_self]; rfl
theorem icopyMap_eq {m : TCellMap} (h : okTCellMap m) : icopyMap m = some m := by
  have hl := h.1
  have := iter_copy (step := icopyMap_L1 m) id (⟨0, []⟩ : TCell) m.Cells (by omega)
    (fun k x v hx' hv => by
      have hk := (List.getElem?_eq_some_iff.1 hx').1
      have hm := List.mem_of_getElem? hx'
      simp [icopyMap_L1, ltB_lt hk, hx', icopyInts_eq (h.2 x hm).1, WR_succ (show k < 9223372036854775807 by omega), List.getElem?_eq_getElem (show k < v.length by omega)])
    (fun v => by simp [icopyMap_L1])
  simp only [List.map_id] at this
  have hm : mkOk 32 ((m.Cells.length : Nat) : Int) ((m.Cells.length : Nat) : Int) = true := by simp only [mkOk, decide_eq_true_eq]; omega
  rw [icopyMap, hm]
  simp [this]
theorem sl10Copy_eq {m : TCellMap} (h : okTCellMap m) : sl10Copy m = some m := by
  have hl := h.1
  have := allI_ruleS (L := sl10Copy_L1 m) (fun k => ((k : Int), m.Cells.take k)) m.Cells (fun _ _ => true) m.Cells (some m.Cells) (by omega) (fun k x hx hk => by
      have hm := List.mem_of_getElem? hx
      have h1 := (h.2 x hm).1
      have e : m.Cells.take (k + 1) = m.Cells.take k ++ [x] := by rw [List.take_add_one, hx]; rfl
      simp only [sl10Copy_L1, ltB_lt hk, ix_nat, hx, Option.bind_some, cond_true, List.nil_append, e, WR_succ (show k < 9223372036854775807 by omega),
        apOk_in (b := 8) (n := x.Neighbors.length) (by omega) (by omega),
        apOk_in (b := 32) (n := (m.Cells.take k ++ [(⟨x.Area, x.Neighbors⟩ : TCell)]).length) (by simp; omega) (by simp; omega)]) (by simp [sl10Copy_L1])
  rw [allI_true] at this
  have this : iter (sl10Copy_L1 m) FU (0, []) = some m.Cells := by simpa using this
  rw [sl10Copy, this]; rfl
def sameId (x y : TSubscriberRecord) : Bool := eqB x.ID.Network y.ID.Network && (eqB x.ID.Number y.ID.Number && true)
theorem sameId_eq (x y : TSubscriberRecord) : sameId x y = (eqB x.ID.Network y.ID.Network && (eqB x.ID.Number y.ID.Number && true)) := rfl
def recOK (rs : List TSubscriberRecord) (k : Nat) (x : TSubscriberRecord) : Bool := vRec x && allI (fun _ y => !sameId y x) (rs.take k)
def vRecs (rs : List TSubscriberRecord) : Bool := allI (recOK rs) rs && leB ((rs.length : Nat) : Int) 4
theorem take_get {α : Type} {xs : List α} {k i : Nat} {x : α} (h : (xs.take k)[i]? = some x) : xs[i]? = some x ∧ i < k := by
  rw [List.getElem?_take] at h
  split at h
  · exact ⟨h, by assumption⟩
  · cases h
theorem records_eq {rs : List TSubscriberRecord} (hl : rs.length ≤ 1000) : sl32Records rs = some (vRecs rs) := by
  have h2 : ∀ (i : Nat) (x : TSubscriberRecord), rs[i]? = some x → iter (sl32Records_L2 rs (i : Int)) FU 0 = bif allI (fun _ y => !sameId y x) (rs.take i) then some (.next ((i + 1 : Nat) : Int)) else some (.done false) := by
    intro i x hx
    have hi := (List.getElem?_eq_some_iff.1 hx).1
    have hlt : (rs.take i).length = i := by simp; omega
    refine allI_ruleG (rs.take i) (fun _ y => !sameId y x) (Step.done false) _ (by omega) (fun k y hy hk => ?_) (by simp [sl32Records_L2, hlt, WR_succ (show i < 9223372036854775807 by omega)])
    obtain ⟨hy', hki⟩ := take_get hy
    simp only [sl32Records_L2, ltB_lt hki, ix_nat, hx, hy', WR_succ (show k < 9223372036854775807 by omega), Option.bind_some, cond_true, ← sameId_eq]
    cases sameId y x <;> rfl
  have hL : iter (sl32Records_L1 rs) FU 0 = bif allI (recOK rs) rs then some (leB ((rs.length : Nat) : Int) 4) else some false := by
    refine allI_ruleG rs (recOK rs) false _ (by omega) (fun k x hx hk => ?_) (by simp [sl32Records_L1])
    simp only [sl32Records_L1, ltB_lt hk, ix_nat, hx, rec_s, h2 k x hx, Option.bind_some, cond_true, recOK]
    cases vRec x <;> cases allI (fun _ y => !sameId y x) (rs.take k) <;> rfl
  simp only [sl32Records, hL, vRecs]
  cases allI (recOK rs) rs <;> rfl
def devN (c : Nat) (rs : List TSubscriberRecord) (j : Nat) : TDevice := ⟨⟨(rs.getD j default).ID, (rs.getD j default).Key, (rs.getD j default).Seq⟩, 0, Int.tmod (j : Int) (c : Int), 0, 0, 0, false, 0, ⟨1, [], []⟩⟩
def sesN (p : TSubscription) (rs : List TSubscriberRecord) (j : Nat) : TSession := ⟨rs.getD j default, p, 0, ⟨0, 0, 0, 0, 0⟩, 0, 0, 0, 0, 0, 0, ⟨0, 0, 0⟩, [], ⟨1, []⟩, 0, ⟨(j : Int), 0, 0⟩⟩
def balN (b : Int) : Int := bif inR b 0 100000 then b else 0
def accN (b : Int) : TAccount := ⟨balN b, balN b, 0, []⟩
def netN (m : TCellMap) (rs : List TSubscriberRecord) (p : TSubscription) (b : Int) (n : Nat) : TNetwork :=
  ⟨m, (List.range n).map (devN m.Cells.length rs), (List.range n).map (sesN p rs), (List.range n).map (fun _ => accN b), [], 0, ⟨2, 3⟩, 0, 0⟩
def zeroN : TNetwork := ⟨⟨[]⟩, [], [], [], [], 0, ⟨0, 0⟩, 0, 0⟩
theorem acc_s (b : Int) : sNewAccount b = some (accN b) := by
  simp only [sNewAccount, inr_s, Option.bind_some, accN, balN]; cases inR b 0 100000 <;> rfl
theorem acc_i (b : Int) : iNewAccount b = some (accN b) := by
  simp only [iNewAccount, inr_i, Option.bind_some, accN, balN]; cases inR b 0 100000 <;> rfl
theorem ses_s {p : TSubscription} (h : okTSubscription p) (x : TSubscriberRecord) (k : Int) : sNewSession x p k = some (⟨x, p, 0, ⟨0, 0, 0, 0, 0⟩, 0, 0, 0, 0, 0, 0, ⟨0, 0, 0⟩, [], ⟨1, []⟩, 0, ⟨k, 0, 0⟩⟩ : TSession) := by
  have h1 := h.1
  simp only [sNewSession, sl30Plan, List.nil_append, apOk_in (b := 8) (n := p.RoamingNetworks.length) (by omega) (by omega), cond_true, Option.bind_some]
theorem ses_i {p : TSubscription} (h : okTSubscription p) (x : TSubscriberRecord) (k : Int) : iNewSession x p k = some (⟨x, p, 0, ⟨0, 0, 0, 0, 0⟩, 0, 0, 0, 0, 0, 0, ⟨0, 0, 0⟩, [], ⟨1, []⟩, 0, ⟨k, 0, 0⟩⟩ : TSession) := by
  simp only [iNewSession, icopySubscription, icopyInts_eq h.1, Option.bind_some]
theorem range_map {α : Type} (f : Nat → α) (k : Nat) : (List.range (k + 1)).map f = (List.range k).map f ++ [f k] := by rw [List.range_succ, List.map_append]; rfl
theorem getD_of {α : Type} [Inhabited α] {xs : List α} {k : Nat} {x : α} (h : xs[k]? = some x) : xs.getD k default = x := by rw [List.getD_eq_getElem?_getD, h]; rfl
def mkN (m : TCellMap) (rs : List TSubscriberRecord) (p : TSubscription) (b : Int) (k : Nat) : Int × List TAccount × List TSession × List TDevice := ((k : Int), (netN m rs p b k).Accounts, (netN m rs p b k).Sessions, (netN m rs p b k).Devices)
theorem new_s {m : TCellMap} (hm : okTCellMap m) {rs : List TSubscriberRecord} (hl : rs.length ≤ 1000) {p : TSubscription} (hp : okTSubscription p) (b : Int) :
    sNewNetwork m rs p b = some (bif vMap m && (vSubs p && vRecs rs) then netN m rs p b rs.length else zeroN) := by
  simp only [sNewNetwork, map_s hm, subs_s hp, records_eq hl, Option.bind_some]
  cases hv : vMap m with
  | false => rfl
  | true =>
    cases vSubs p with
    | false => rfl
    | true =>
      cases vRecs rs with
      | false => rfl
      | true =>
        have hc : 1 ≤ m.Cells.length := by
          simp only [vMap, Bool.and_eq_true] at hv
          have := inR_iff.1 hv.1; omega
        have hz : eqB ((m.Cells.length : Nat) : Int) 0 = false := eqB_f.2 (by omega)
        have := allI_ruleS (L := sNewNetwork_L1 m rs p b) (mkN m rs p b) rs (fun _ _ => true) ((netN m rs p b rs.length).Accounts, (netN m rs p b rs.length).Sessions, (netN m rs p b rs.length).Devices) (some ((netN m rs p b rs.length).Accounts, (netN m rs p b rs.length).Sessions, (netN m rs p b rs.length).Devices)) (by omega) (fun k x hx hk => by
            simp only [mkN, netN, sNewNetwork_L1, ltB_lt hk, ix_nat, hx, hz, Option.bind_some, cond_true, Bool.not_false, sNewDevice, ses_s hp, acc_s, WR_succ (show k < 9223372036854775807 by omega), range_map,
              apOk_in (b := 144) (n := ((List.range k).map (devN m.Cells.length rs) ++ [(⟨⟨x.ID, x.Key, x.Seq⟩, 0, Int.tmod (k : Int) ((m.Cells.length : Nat) : Int), 0, 0, 0, false, 0, ⟨1, [], []⟩⟩ : TDevice)]).length) (by simp; omega) (by simp; omega),
              apOk_in (b := 288) (n := ((List.range k).map (sesN p rs) ++ [(⟨x, p, 0, ⟨0, 0, 0, 0, 0⟩, 0, 0, 0, 0, 0, 0, ⟨0, 0, 0⟩, [], ⟨1, []⟩, 0, ⟨(k : Int), 0, 0⟩⟩ : TSession)]).length) (by simp; omega) (by simp; omega),
              apOk_in (b := 48) (n := ((List.range k).map (fun _ => accN b) ++ [(⟨(accN b).Total, (accN b).Available, (accN b).Spent, []⟩ : TAccount)]).length) (by simp; omega) (by simp; omega), devN, sesN, getD_of hx]
            rfl) (by simp [mkN, sNewNetwork_L1])
        rw [allI_true] at this
        simp only [Bool.not_true, cond_false, Bool.and_self, cond_true, sl10Copy_eq hm, Option.bind_some]
        rw [show ((0 : Int), ([] : List TAccount), ([] : List TSession), ([] : List TDevice)) = mkN m rs p b 0 from rfl, this]
        rfl
theorem new_i {m : TCellMap} (hm : okTCellMap m) {rs : List TSubscriberRecord} (hl : rs.length ≤ 1000) {p : TSubscription} (hp : okTSubscription p) (b : Int) :
    iNewNetwork m rs p b = some (bif vMap m && (vSubs p && vRecs rs) then netN m rs p b rs.length else zeroN) := by
  simp only [iNewNetwork, map_i hm, subs_i hp, Option.bind_some]
  cases hv : vMap m with
  | false => rfl
  | true =>
    cases vSubs p with
    | false => rfl
    | true =>
      cases h4 : leB ((rs.length : Nat) : Int) 4 with
      | false =>
        have : ltB 4 ((rs.length : Nat) : Int) = true := by rw [lt_le, h4]; rfl
        simp only [this, vRecs, h4, Bool.and_false, Bool.not_true, cond_true, cond_false, Option.bind_some]; rfl
      | true =>
        have h4' : ltB 4 ((rs.length : Nat) : Int) = false := by rw [lt_le, h4]; rfl
        have hc : 1 ≤ m.Cells.length := by
          simp only [vMap, Bool.and_eq_true] at hv
          have := inR_iff.1 hv.1; omega
        have hz : eqB ((m.Cells.length : Nat) : Int) 0 = false := eqB_f.2 (by omega)
        have := allI_ruleS (L := iNewNetwork_L1 m rs p b m) (mkN m rs p b) rs (recOK rs) zeroN (some (netN m rs p b rs.length)) (by omega) (fun k x hx hk => by
            have hsl : slOk rs 0 (k : Int) = true := by simp [slOk]; omega
            have htk : rs.take ((k : Int)).toNat = rs.take k := by simp
            have hlt : (rs.take k).length = k := by simp; omega
            have h2 : iter (iNewNetwork_L2 m rs p b (k : Int) (netN m rs p b k).Accounts (netN m rs p b k).Sessions (netN m rs p b k).Devices x) FU 0 = bif allI (fun _ y => !sameId y x) (rs.take k) then some (.next (mkN m rs p b (k + 1))) else some (.done zeroN) := by
              refine allI_ruleG (rs.take k) (fun _ y => !sameId y x) (Step.done zeroN) _ (by omega) (fun j y hy hj => ?_) ?_
              · simp only [iNewNetwork_L2, htk, ltB_lt hj, ix_nat, hy, WR_succ (show j < 9223372036854775807 by omega), Option.bind_some, cond_true, ← sameId_eq]
                cases sameId y x <;> rfl
              · simp only [iNewNetwork_L2, htk, ltB_self, hz, Option.bind_some, cond_true, cond_false, Bool.not_false, iNewDevice, ses_i hp, acc_i, WR_succ (show k < 9223372036854775807 by omega), mkN, netN, range_map,
                  apOk_in (b := 144) (n := ((List.range k).map (devN m.Cells.length rs) ++ [(⟨⟨x.ID, x.Key, x.Seq⟩, 0, Int.tmod (k : Int) ((m.Cells.length : Nat) : Int), 0, 0, 0, false, 0, ⟨1, [], []⟩⟩ : TDevice)]).length) (by simp; omega) (by simp; omega),
                  apOk_in (b := 288) (n := ((List.range k).map (sesN p rs) ++ [(⟨x, p, 0, ⟨0, 0, 0, 0, 0⟩, 0, 0, 0, 0, 0, 0, ⟨0, 0, 0⟩, [], ⟨1, []⟩, 0, ⟨(k : Int), 0, 0⟩⟩ : TSession)]).length) (by simp; omega) (by simp; omega),
                  apOk_in (b := 48) (n := ((List.range k).map (fun _ => accN b) ++ [(⟨(accN b).Total, (accN b).Available, (accN b).Spent, []⟩ : TAccount)]).length) (by simp; omega) (by simp; omega), devN, sesN, getD_of hx]
                rfl
            show iNewNetwork_L1 m rs p b m ((k : Int), (netN m rs p b k).Accounts, (netN m rs p b k).Sessions, (netN m rs p b k).Devices) = _
            simp only [iNewNetwork_L1, ltB_lt hk, ix_nat, hx, rec_i, hsl, h2, Option.bind_some, cond_true, recOK]
            cases vRec x <;> cases allI (fun _ y => !sameId y x) (rs.take k) <;> rfl) (by simp [mkN, iNewNetwork_L1, netN])
        simp only [h4', Bool.not_true, cond_false, icopyMap_eq hm, Option.bind_some, vRecs, h4, Bool.and_true, Bool.true_and]
        rw [show ((0 : Int), ([] : List TAccount), ([] : List TSession), ([] : List TDevice)) = mkN m rs p b 0 from rfl, this]
        cases allI (recOK rs) rs <;> rfl
end Go.AM
set_option linter.unusedVariables false
set_option linter.unusedSimpArgs false
namespace Go.AM
open Go.Proofs
attribute [local simp] ltB_self eqB_refl ix_nat
theorem iter_one {τ ρ : Type} {step : τ → Option (Step τ ρ)} {x : τ} {r : ρ} (h : step x = some (.done r)) : iter step FU x = some r := by
  obtain ⟨n, hn⟩ : ∃ n, FU = n + 1 := ⟨FU - 1, by have := FU_big; omega⟩
  rw [hn, iter, h]
section
variable {m : TCellMap} {rs : List TSubscriberRecord} {p : TSubscription} {b : Int}
theorem w0 : WR 0 = 0 := WR_in (by omega)
theorem w1 : WR 1 = 1 := WR_in (by omega)
theorem okN (hm : okTCellMap m) (hp : okTSubscription p) (hl : rs.length ≤ 1000) : okTNetwork (netN m rs p b rs.length) := by
  refine ⟨hm, ⟨by simp [netN]; omega, fun x hx => ?_⟩, ⟨by simp [netN]; omega, fun x hx => ?_⟩, ⟨by simp [netN]; omega, fun x hx => ?_⟩, ⟨by simp [netN], fun x hx => by simp [netN] at hx⟩⟩
  · obtain ⟨k, _, rfl⟩ := List.mem_map.1 hx
    exact ⟨⟨by simp [devN], by simp [devN]⟩, ⟨by simp [devN], by simp [devN]⟩⟩
  · obtain ⟨k, _, rfl⟩ := List.mem_map.1 hx
    exact ⟨hp, ⟨by simp [sesN], by simp [sesN]⟩, ⟨by simp [sesN], by simp [sesN]⟩⟩
  · obtain ⟨k, _, rfl⟩ := List.mem_map.1 hx
    exact ⟨by simp [accN], fun _ _ => trivial⟩
theorem okZ : okTNetwork zeroN := ⟨⟨by simp [zeroN], by simp [zeroN]⟩, ⟨by simp [zeroN], by simp [zeroN]⟩, ⟨by simp [zeroN], by simp [zeroN]⟩, ⟨by simp [zeroN], by simp [zeroN]⟩, ⟨by simp [zeroN], by simp [zeroN]⟩⟩
theorem vZ : vNetwork zeroN = false := by
  have : vMap zeroN.Map = false := by simp [vMap, zeroN, inR, leB]
  simp [vNetwork, this]
theorem range_get {α : Type} (f : Nat → α) {n k : Nat} (hk : k < n) : ((List.range n).map f)[k]? = some (f k) := by simp [hk]
theorem range_of {α : Type} {f : Nat → α} {n k : Nat} {x : α} (h : ((List.range n).map f)[k]? = some x) : k < n ∧ x = f k := by
  rw [List.getElem?_map] at h
  by_cases hk : k < n
  · simp [hk] at h; exact ⟨hk, h.symm⟩
  · simp [hk] at h
theorem bal_in (b : Int) : 0 ≤ balN b ∧ balN b ≤ 100000 := by
  unfold balN
  cases h : inR b 0 100000 with
  | false => simp
  | true => simpa using inR_iff.1 h
theorem has_k {n : Nat} {k : Nat} (hn : n ≤ 4) (hk : k < n) : inR (k : Int) 0 (WR ((n : Int) - 1)) = true := by
  rw [WR_in (by omega)]; exact inR_iff.2 ⟨by omega, by omega⟩
theorem min_self (a : Int) : sMin a a = some a := by simp [sMin, ltB]
variable (H : vMap m = true ∧ vSubs p = true ∧ vRecs rs = true)
include H
theorem cells_in : 1 ≤ m.Cells.length ∧ m.Cells.length ≤ 6 := by
  obtain ⟨hv, hs, hr⟩ := id H
  simp only [vMap, Bool.and_eq_true] at hv
  have := inR_iff.1 hv.1; omega
theorem recs_in {k : Nat} (hk : k < rs.length) : vRec (rs.getD k default) = true := by
  obtain ⟨hv, hs, hr⟩ := id H
  simp only [vRecs, Bool.and_eq_true] at hr
  have := allI_iff.1 hr.1 k _ (List.getElem?_eq_getElem hk)
  simp only [recOK, Bool.and_eq_true] at this
  rw [List.getD_eq_getElem?_getD, List.getElem?_eq_getElem hk]
  exact this.1
theorem recs_len : rs.length ≤ 4 := by
  obtain ⟨hv, hs, hr⟩ := id H
  simp only [vRecs, Bool.and_eq_true] at hr
  have := leBt hr.2; omega
theorem dev_in {k : Nat} (hk : k < rs.length) : vDevice (devN m.Cells.length rs k) = true := by
  obtain ⟨hv, hs, hr⟩ := id H
  have h1 := recs_in H hk
  obtain ⟨c1, c2⟩ := cells_in H
  have h2 := tmod_in (v := (k : Int)) (n := (m.Cells.length : Int)) (by omega) (by omega)
  simp only [vRec, Bool.and_eq_true] at h1
  simp only [vDevice, devN, vUSIM, h1.1, h1.2.1, h1.2.2, inR_iff.2 (show (0 : Int) ≤ Int.tmod (k : Int) (m.Cells.length : Int) ∧ Int.tmod (k : Int) (m.Cells.length : Int) ≤ 5 from ⟨h2.1, by omega⟩), Bool.true_and, Bool.and_true]
  simp [inR, leB, vKey, vRecv, vFit, allI, eqB, w1]
theorem ses_in {k : Nat} (hk : k < rs.length) : vSession (sesN p rs k) = true := by
  obtain ⟨hv, hs, hr⟩ := id H
  have h1 := recs_in H hk
  have hq : vQuota (⟨(k : Int), 0, 0⟩ : TQuota) = true := by simp [vQuota, leB]
  simp only [vSession, sesN, h1, hs, hq, Bool.true_and]
  have hp : paidB (sesN p rs k) = true := by
    simp [paidB, sesN, remQ, hq, nbytes, w0, leB]
  simp only [sesN] at hp
  rw [hp]
  simp [inR, leB, ltB, vKey, vPaging, vSender, keysB, vFit, allI, eqB, w1]
theorem acc_in : vAccount (accN b) = true := by
  obtain ⟨hv, hs, hr⟩ := id H
  obtain ⟨b1, b2⟩ := bal_in b
  simp only [vAccount, accN, totB, totR, List.foldl_nil, Int.add_zero, WR_in (show -9223372036854775808 ≤ balN b ∧ balN b ≤ 9223372036854775807 by omega), inR_iff.2 (show (0 : Int) ≤ balN b ∧ balN b ≤ 100000 from ⟨b1, b2⟩), inR_iff.2 (show (0 : Int) ≤ balN b ∧ balN b ≤ balN b from ⟨b1, by omega⟩), inR_iff.2 (show (0 : Int) ≤ 0 ∧ (0 : Int) ≤ balN b from ⟨by omega, b1⟩), eqB_refl, Bool.true_and, Bool.and_true]
  simp [leB, allI]
theorem mem_in {k : Nat} (hk : k < rs.length) : memB (netN m rs p b rs.length) k (devN m.Cells.length rs k) = true := by
  obtain ⟨hv, hs, hr⟩ := id H
  obtain ⟨c1, c2⟩ := cells_in H
  have h2 := tmod_in (v := (k : Int)) (n := (m.Cells.length : Int)) (by omega) (by omega)
  have hq : vQuota (⟨(k : Int), 0, 0⟩ : TQuota) = true := by simp [vQuota, leB]
  have e1 : (netN m rs p b rs.length).Sessions[k]? = some (sesN p rs k) := range_get _ hk
  have e2 : (netN m rs p b rs.length).Accounts[k]? = some (accN b) := range_get _ hk
  have i1 : idsB (devN m.Cells.length rs k) (sesN p rs k) = true := by simp [idsB, devN, sesN]
  have i2 : cellB (netN m rs p b rs.length).Map (devN m.Cells.length rs k).Cell = true := inR_iff.2 (show (0 : Int) ≤ Int.tmod (k : Int) (m.Cells.length : Int) ∧ Int.tmod (k : Int) (m.Cells.length : Int) ≤ ((m.Cells.length : Nat) : Int) - 1 from ⟨h2.1, by omega⟩)
  have i3 : cellB (netN m rs p b rs.length).Map (sesN p rs k).Cell = true := inR_iff.2 (show (0 : Int) ≤ 0 ∧ (0 : Int) ≤ ((m.Cells.length : Nat) : Int) - 1 from ⟨by omega, by omega⟩)
  have i4 : vMatch (accN b) (sesN p rs k).Usage = true := by
    have ha := acc_in (b := b) H
    simp only [accN] at ha
    simp [vMatch, ha, sesN, hq, resFor, accN, eqB]
  have i5 : eqB (sesN p rs k).Usage.SessionID (k : Int) = true := by simp [sesN]
  simp only [memB, e1, e2, dev_in H hk, ses_in H hk, acc_in (b := b) H, i1, i2, i3, i4, i5, Bool.and_true]
theorem net_in : vNetwork (netN m rs p b rs.length) = true := by
  obtain ⟨hv, hs, hr⟩ := id H
  obtain ⟨c1, c2⟩ := cells_in H
  have hl := recs_len H
  have he : endB (netN m rs p b rs.length) = true := by
    have : ∀ c : Nat, 1 ≤ c → c ≤ 6 → inR 0 0 (WR ((bShl .i64 1 ((c : Nat) : Int)) - 1)) = true := by
      intro c h1 h2
      rcases (show c = 1 ∨ c = 2 ∨ c = 3 ∨ c = 4 ∨ c = 5 ∨ c = 6 by omega) with rfl | rfl | rfl | rfl | rfl | rfl <;> kernel_rfl
    simp only [endB, netN, this _ c1 c2, Bool.true_and]; simp [inR, leB]
  have hp : vPool (netN m rs p b rs.length).Core = true := by show vPool ⟨2, 3⟩ = true; kernel_rfl
  have ha : allI (memB (netN m rs p b rs.length)) (netN m rs p b rs.length).Devices = true := allI_iff.2 fun k d hd => by
    obtain ⟨hk, rfl⟩ := range_of hd
    exact mem_in H hk
  have hd : (netN m rs p b rs.length).Devices.length = rs.length := by simp [netN]
  have hse : (netN m rs p b rs.length).Sessions.length = rs.length := by simp [netN]
  have hac : (netN m rs p b rs.length).Accounts.length = rs.length := by simp [netN]
  simp only [vNetwork, show vMap (netN m rs p b rs.length).Map = true from hv, hp, ha, he, hd, hse, hac, eqB_refl, leB_t.2 (show ((rs.length : Nat) : Int) ≤ 4 by omega), Bool.true_and, Bool.and_true]
  simp [netN, leB, eqB]
theorem audit_in (hm : okTCellMap m) (hp : okTSubscription p) : sAudit (netN m rs p b rs.length) = some true := by
  obtain ⟨hv, hs, hr⟩ := id H
  have hl := recs_len H
  have hd : (netN m rs p b rs.length).Devices.length = rs.length := by simp [netN]
  have hse : (netN m rs p b rs.length).Sessions.length = rs.length := by simp [netN]
  have hac : (netN m rs p b rs.length).Accounts.length = rs.length := by simp [netN]
  have hL : iter (sAudit_L1 (netN m rs p b rs.length)) FU 0 = bif allI (fun _ _ => true) (netN m rs p b rs.length).Devices then some true else some false := by
    refine allI_rule _ _ _ (by rw [hd]; omega) (fun k d hx hk => ?_) ?_
    · rw [hd] at hk
      have e0 : (netN m rs p b rs.length).Devices[k]? = some (devN m.Cells.length rs k) := range_get _ hk
      have e1 : (netN m rs p b rs.length).Sessions[k]? = some (sesN p rs k) := range_get _ hk
      have e2 : (netN m rs p b rs.length).Accounts[k]? = some (accN b) := range_get _ hk
      have hh : sl34Has (netN m rs p b rs.length) (k : Int) = some true := by
        simp only [sl34Has, hd, hse, min_self, inr_s, Option.bind_some, has_k hl hk]
      have ha : sl34Account (netN m rs p b rs.length) (k : Int) = some true := by
        simp only [sl34Account, hac, hse, min_self, inr_s, Option.bind_some, has_k hl hk]
      have p1 : sIsPrefixOf [] [] = some true := by
        have : iter (sl15Same_L1 [] []) FU 0 = some true := iter_one (by simp [sl15Same_L1])
        simp [sIsPrefixOf, sl15Same, this, slOk, leB]
      have p2 : sBytesOfFirst (sesN p rs k) 0 = some 0 := by
        have : iter (sBytesOfFirst_L1 (sesN p rs k) 0) FU (0, 0) = some 0 := iter_one (by simp [sBytesOfFirst_L1, sesN])
        simp [sBytesOfFirst, this]
      have d1 : sDeliveredInOrder (netN m rs p b rs.length) (k : Int) = some true := by
        simp only [sDeliveredInOrder, hh, ix_nat, e0, e1, Option.bind_some, cond_true]
        show (Option.bind (Option.bind (sIsPrefixOf [] []) _) _) = _
        rw [p1]; rfl
      have d2 : sAcknowledgedPackets (sesN p rs k) = some 0 := rfl
      have d3 : sChargedBytes (netN m rs p b rs.length) (k : Int) = some 0 := by
        simp only [sChargedBytes, ha, ix_nat, e1, e2, Option.bind_some, Bool.not_true, cond_false]; rfl
      have d4 : sChargedExactlyOnce (netN m rs p b rs.length) (k : Int) = some true := by
        simp only [sChargedExactlyOnce, ha, d3, ix_nat, e1, d2, p2, Option.bind_some, cond_true, eqB_refl]
      have d5 : sAcknowledgedWereDelivered (netN m rs p b rs.length) (k : Int) = some true := by
        simp only [sAcknowledgedWereDelivered, hh, ix_nat, e0, e1, d2, Option.bind_some, cond_true]; simp [devN, leB]
      simp only [sAudit_L1, hd, ltB_lt hk, d1, d4, d5, Option.bind_some, cond_true, cond_false, Bool.not_true, WR_succ (show k < 9223372036854775807 by omega)]
    · simp only [sAudit_L1, ltB_self, cond_false, network_s (okN (rs := rs) (b := b) hm hp (by omega)), net_in (b := b) H, Option.bind_some]
  rw [allI_true] at hL
  exact hL
theorem sync_in {k : Nat} (hk : k < rs.length) : iInSync (devN m.Cells.length rs k).Card (sesN p rs k).Record = some true := by
  obtain ⟨hv, hs, hr⟩ := id H
  have h1 := recs_in H hk
  have h2 : vUSIM (devN m.Cells.length rs k).Card = true := h1
  simp only [iInSync, usim_i, rec_i, h2, Option.bind_some, cond_true]
  simp only [sesN, devN, h1, cond_true, eqB_refl, Bool.and_self, Int.sub_self, inr_i, Option.bind_some]
  simp [w0, inR, leB]
end
theorem lFnNewNetworks_ok (xs : List Int) (hp : preL okU8 xs) : lFnNewNetworks xs = some true := by
  simp only [lFnNewNetworks, lbig, Option.bind_some]
  cases hb : ltB 1048576 ((xs.length : Nat) : Int) with
  | true => rfl
  | false =>
    have hl := ltBf hb
    obtain ⟨⟨m, rs, p, b⟩, hd, hm, hr, hq⟩ := (wDrawNewNetwork (xs := xs) (by omega) hp.2).ex
    simp only at hm hr hq
    have hs : okTSubscription p := ⟨by omega, fun _ _ => trivial⟩
    simp only [cond_false, hd, Option.bind_some, new_i hm (show rs.length ≤ 1000 by omega) hs b, new_s hm (show rs.length ≤ 1000 by omega) hs b]
    cases hv : (vMap m && (vSubs p && vRecs rs)) with
    | false =>
      simp only [cond_false]
      rw [show (⟨zeroN.Map, zeroN.Devices, zeroN.Sessions, zeroN.Accounts, [], zeroN.DownCells, zeroN.Core, zeroN.Now, zeroN.Lost⟩ : TNetwork) = zeroN from rfl, network_s okZ, network_i okZ, vZ]
      simp [zeroN]
    | true =>
      simp only [Bool.and_eq_true] at hv
      obtain ⟨v1, v2, v3⟩ := hv
      have n1 := net_in (b := b) ⟨v1, v2, v3⟩
      have hlen := recs_len (p := p) (m := m) ⟨v1, v2, v3⟩
      have hdl : (netN m rs p b rs.length).Devices.length = rs.length := by simp [netN]
      simp only [cond_true]
      rw [show (⟨(netN m rs p b rs.length).Map, (netN m rs p b rs.length).Devices, (netN m rs p b rs.length).Sessions, (netN m rs p b rs.length).Accounts, [], (netN m rs p b rs.length).DownCells, (netN m rs p b rs.length).Core, (netN m rs p b rs.length).Now, (netN m rs p b rs.length).Lost⟩ : TNetwork) = netN m rs p b rs.length from rfl,
        network_s (okN hm hs (by omega)), network_i (okN hm hs (by omega)), audit_in ⟨v1, v2, v3⟩ hm hs, n1, hdl]
      simp only [Option.bind_some, Bool.not_true, cond_false, eqB_refl]
      have hL : iter (lFnNewNetworks_L1 (m, rs, p, b) (netN m rs p b rs.length)) FU 0 = bif allI (fun _ _ => true) rs then some true else some false := by
        refine allI_rule _ _ _ (by omega) (fun k x hx hk => ?_) (by simp [lFnNewNetworks_L1])
        have e0 : (netN m rs p b rs.length).Devices[k]? = some (devN m.Cells.length rs k) := range_get _ hk
        have e1 : (netN m rs p b rs.length).Sessions[k]? = some (sesN p rs k) := range_get _ hk
        have e2 : (netN m rs p b rs.length).Accounts[k]? = some (accN b) := range_get _ hk
        have s1 : (devN m.Cells.length rs k).State = 0 := rfl
        have s2 : (devN m.Cells.length rs k).Card.ID = x.ID := by simp only [devN, getD_of hx]
        have s3 : (accN b).Spent = 0 := rfl
        simp only [lFnNewNetworks_L1, ltB_lt hk, ix_nat, hx, e0, e1, e2, s1, s2, s3, sync_in ⟨v1, v2, v3⟩ hk, Option.bind_some, cond_true, cond_false, eqB_refl, Bool.not_true, Bool.and_self, WR_succ (show k < 9223372036854775807 by omega)]
      rw [allI_true] at hL
      exact hL
theorem fnNewNetworks_fn (x0 : D) (h0 : WT (.l [.i .u8]) x0) : Fn Tryz.prog 3 [.c x0] [rB true] := by
  obtain ⟨y0, rfl, l0, w0⟩ := h0.gl
  obtain ⟨a0, rfl, p0⟩ := WTL_map (f := eU8) (p := okU8) (fun x h => by obtain ⟨n, r, rfl, w, h⟩ := h.gi; obtain rfl := h.gn; exact ⟨n, rfl, wf_u8 w⟩) w0
  exact lFnNewNetworks_c (lFnNewNetworks_ok a0 ⟨by simpa using l0, p0⟩)
end Go.AM
