/- A part. -/
import Derived.Test.YtljhooecmjejiaaGreatS6
set_option linter.unusedVariables false
open Option renaming bind→Vj
namespace Go.AM
open Go.Proofs
attribute [local irreducible] AWN NS AWO AWR AWC DR cZ ey
set_option maxRecDepth 100000
set_option maxHeartbeats 40000000
def y3:(Int×List Int×aE)→Option (cp (Int×List Int×aE) (List Int×aE))
 |(v4,v8,v9)=>bif ltB v4 4 then(Vj (fZ v9 3) fun r17=>Vj (bif r17.1 then(bif cM 8 (v8++[v4]).length then(some (v8++[v4])) else none) else(some v8)) fun(v18:List Int)=>some (.next (WR (v4+1),v18,r17.2))) else(some (.done (v8,v9)))
def xr (a0:aE):Option (bB×aE):=
 Vj (bS a0 9) fun r1=>Vj (bS r1.2 4) fun r2=>Vj (bS r2.2 20) fun r3=>Vj (iter (y3) FU (0,([]:List Int),r3.2)) fun((v15,v16):List Int×aE)=>some ((⟨WR (1+r1.1),WR (1+r2.1),WR (1+r3.1),v15⟩:bB),v16)
theorem IT {a0:aE} {r:bB×aE} (H:xr a0=some r):FnV Tryz.prog 124 [(200,.var 143 (kM [.f] (bg a0)))] [tP 200] [(200,.var 143 (kM [.f] (bg r.2)))] (.v (.agg (kM [.n 210] (dM r.1)))) [(210,n3 r.1.bJ)]:=by
 refine fV Tryz.func124 Tryz.ntmps124 ?_
 obtain⟨r1,q1,H⟩:=ob H
 refine sA (cw (o:=200) (bz q1)) ?_
 obtain⟨r2,q2,H⟩:=ob H
 refine sA (cw (o:=200) (bz q2)) ?_
 obtain⟨r3,q3,H⟩:=ob H
 refine sA (cw (o:=200) (bz q3)) ?_
 obtain⟨⟨v15,v16⟩,Hj,H⟩:=ob H
 refine jB ⟨[(2,tP 210),(3,tP 211)],(oM [.n 212] 211 50 (dM (⟨WR (1+r1.1),WR (1+r2.1),WR (1+r3.1),v15⟩:bB))++[(200,.var 143 (kM [.f] (bg v16))),(210,.var 50 (kM [.z] (dM lu)))]),213⟩ ?_ ?_
 ·refine iT Hj (fun q=>⟨[(0,tP 200),(2,tP 210),(3,tP 211),(4,tI q.1)],(oM [.n 212] 211 50 (dM (⟨WR (1+r1.1),WR (1+r2.1),WR (1+r3.1),q.2.1⟩:bB))++[(200,.var 143 (kM [.f] (bg q.2.2))),(210,.var 50 (kM [.z] (dM lu)))]),213⟩) ?_ (by refine an (c7 (o:=211) (j:=3) 3 1 true) ?_;refine an (wB 212 (([]:List Int).length)) ?_;exact wo)
  rintro⟨v4,v8,v9⟩ o H
  try dsimp only
  refine wI ?_
  refine cC H ?_ ?_<;>intro H
  ·obtain⟨r17,q17,H⟩:=ob H
   refine sA (cw (o:=200) (fK q17)) ?_
   obtain⟨v18,Hj,H⟩:=ob H
   refine jA ⟨[(0,tP 200),(2,tP 210),(3,tP 211),(4,tI v4)],(oM [.n 212] 211 50 (dM (⟨WR (1+r1.1),WR (1+r2.1),WR (1+r3.1),v18⟩:bB))++[(200,.var 143 (kM [.f] (bg r17.2))),(210,.var 50 (kM [.z] (dM lu)))]),213⟩ ?_ ?_
   ·have H:=Hj
    refine cC H ?_ ?_<;>intro H
    ·obtain⟨h,H⟩:=rq H
     refine sA (xL (enc:=eI) (ys:=v8) (zs:=[v4]) h (by first|exact List.cons_ne_nil _ _|simp) rfl (fun _=>rfl) (by first|rfl|simp) (.w rfl (by first|rfl|exact lm _|simp)) rfl rfl rfl rfl rfl rfl rfl rfl rfl rfl) ?_
     cases H
     refine an (c8 212) ?_
     exact wo
    ·cases H
     exact wo
   cases H
   refine dU ?_
   exact wo
  ·cases H
   refine dT (fun hq=>?_)
   cases hq
   refine wI ?_
   exact wo
 cases H
 refine bV (wS 212 210) ?_
 exact bU
def li (a0:List aC) (v1:Int):Int→Option (cp (Int) (cp (Int) (Bool)))
 |v4=>bif ltB v4 v1 then(Vj (ix a0 v4) fun x5=>Vj (ix a0 v1) fun x6=>bif(eqB x5.ID.dR x6.ID.dR&&(eqB x5.ID.bN x6.ID.bN&&true)) then(dn (dn (some false))) else(some (.next (WR (v4+1))))) else(dn (some (.next (WR (v1+1)))))
def lh (a0:List aC):Int→Option (cp (Int) (Bool))
 |v1=>bif ltB v1 ((a0.length:Nat):Int) then(Vj (ix a0 v1) fun x2=>Vj (dV x2) fun r3=>bif !r3 then(dn (some false)) else(iter (li a0 v1) FU 0)) else(dn (some (leB ((a0.length:Nat):Int) 4)))
def pF (a0:List aC):Option Bool:=
 iter (lh a0) FU 0
theorem Cv {a0:List aC} {r:Bool} (H:pF a0=some r):Fn Tryz.prog 191 [aL (a0.map ct)] [.c (.d (.b r))]:=by
 refine fI Tryz.func191 Tryz.ntmps191 ?_
 refine iT H (fun q=>⟨[(0,.v (.c (.d false (.l (a0.map ct))))),(3,tI q)],[],0⟩) ?_
 rintro v1 o H
 try dsimp only
 refine wI ?_
 refine cC H ?_ ?_<;>intro H
 ·obtain⟨x2,hx2,H⟩:=ob H
  refine nA (xdT (enc:=ct) hx2) ?_
  obtain⟨r3,q3,H⟩:=ob H
  refine nA (ca (hF:=fT q3)) ?_
  refine cC H ?_ ?_<;>intro H
  ·obtain⟨r0,Hd,rfl⟩:=dnE H
   refine ks (fun hq=>?_)
   have H:=Hd.trans (congrArg some hq)
   refine wI ?_
   cases H
   exact ah
  ·refine iT H (fun q=>⟨[(0,.v (.c (.d false (.l (a0.map ct))))),(3,tI v1),(4,tI q)],[],0⟩) ?_
   rintro v4 o H
   try dsimp only
   refine wI ?_
   refine cC H ?_ ?_<;>intro H
   ·refine dI ?_
    obtain⟨x5,hx5,H⟩:=ob H
    refine dA (xdT (enc:=ct) hx5) ?_
    obtain⟨x6,hx6,H⟩:=ob H
    refine dA (xdT (enc:=ct) hx6) ?_
    refine wI ?_
    refine cC H ?_ ?_<;>intro H
    ·obtain⟨r0,Hd,rfl⟩:=dnE H
     refine ks (fun hq=>?_)
     have H:=Hd.trans (congrArg some hq)
     refine wI ?_
     obtain⟨r0,Hd,rfl⟩:=dnE H
     refine ks (fun hq=>?_)
     have H:=Hd.trans (congrArg some hq)
     refine wI ?_
     cases H
     exact ah
    ·cases H
     refine dU ?_
     exact wo
   ·obtain⟨r0,Hd,rfl⟩:=dnE H
    refine dT (fun hq=>?_)
    have H:=Hd.trans (congrArg some hq)
    refine wI ?_
    cases H
    refine dU ?_
    exact wo
 ·obtain⟨r0,Hd,rfl⟩:=dnE H
  refine dT (fun hq=>?_)
  have H:=Hd.trans (congrArg some hq)
  refine wI ?_
  cases H
  exact ah
end Go.AM
