/- A part. -/
import Derived.Test.YtljhooecmjejiaaGreatS6
set_option linter.unusedVariables false
open Option renaming bind→Un
namespace Go.AM
open Go.Proofs
attribute [local irreducible] AWN NS AWO AWR AWC DR cZ eE
set_option maxRecDepth 100000
set_option maxHeartbeats 40000000
def yc:(Int×List Int×aH)→Option (cB (Int×List Int×aH) (List Int×aH))
 |(v4,v8,v9)=>bif ltB v4 4 then(Un (gb v9 3) fun r17=>Un (bif r17.1 then(bif cS 8 (v8++[v4]).length then(some (v8++[v4])) else none) else(some v8)) fun(v18:List Int)=>some (.next (WR (v4+1),v18,r17.2))) else(some (.done (v8,v9)))
def ww (a0:aH):Option (bA×aH):=
 Un (bZ a0 9) fun r1=>Un (bZ r1.2 4) fun r2=>Un (bZ r2.2 20) fun r3=>Un (iter (yc) FU (0,([]:List Int),r3.2)) fun((v15,v16):List Int×aH)=>some ((⟨WR (1+r1.1),WR (1+r2.1),WR (1+r3.1),v15⟩:bA),v16)
theorem HG {a0:aH} {r:bA×aH} (H:ww a0=some r):FnV Tryz.prog 124 [(200,.var 143 (kM [.f] (bI a0)))] [tP 200] [(200,.var 143 (kM [.f] (bI r.2)))] (.v (.agg (kM [.n 210] (dE r.1)))) [(210,n3 r.1.bF)]:=by
 refine fV Tryz.func124 Tryz.ntmps124 ?_
 obtain⟨r1,q1,H⟩:=ob H
 refine sA (cw (o:=200) (bL q1)) ?_
 obtain⟨r2,q2,H⟩:=ob H
 refine sA (cw (o:=200) (bL q2)) ?_
 obtain⟨r3,q3,H⟩:=ob H
 refine sA (cw (o:=200) (bL q3)) ?_
 obtain⟨⟨v15,v16⟩,Hj,H⟩:=ob H
 refine jB ⟨[(2,tP 210),(3,tP 211)],(oM [.n 212] 211 50 (dE (⟨WR (1+r1.1),WR (1+r2.1),WR (1+r3.1),v15⟩:bA))++[(200,.var 143 (kM [.f] (bI v16))),(210,.var 50 (kM [.z] (dE lb)))]),213⟩ ?_ ?_
 ·refine iT Hj (fun q=>⟨[(0,tP 200),(2,tP 210),(3,tP 211),(4,tI q.1)],(oM [.n 212] 211 50 (dE (⟨WR (1+r1.1),WR (1+r2.1),WR (1+r3.1),q.2.1⟩:bA))++[(200,.var 143 (kM [.f] (bI q.2.2))),(210,.var 50 (kM [.z] (dE lb)))]),213⟩) ?_ (by refine aq (c8 (o:=211) (j:=3) 3 1 true) ?_;refine aq (wB 212 (([]:List Int).length)) ?_;exact wo)
  rintro⟨v4,v8,v9⟩ o H
  try dsimp only
  refine wI ?_
  refine cC H ?_ ?_<;>intro H
  ·obtain⟨r17,q17,H⟩:=ob H
   refine sA (cw (o:=200) (f7 q17)) ?_
   obtain⟨v18,Hj,H⟩:=ob H
   refine jA ⟨[(0,tP 200),(2,tP 210),(3,tP 211),(4,tI v4)],(oM [.n 212] 211 50 (dE (⟨WR (1+r1.1),WR (1+r2.1),WR (1+r3.1),v18⟩:bA))++[(200,.var 143 (kM [.f] (bI r17.2))),(210,.var 50 (kM [.z] (dE lb)))]),213⟩ ?_ ?_
   ·have H:=Hj
    refine cC H ?_ ?_<;>intro H
    ·obtain⟨h,H⟩:=rq H
     refine sA (yk (enc:=eI) (ys:=v8) (zs:=[v4]) h (by first|exact List.cons_ne_nil _ _|simp) rfl (fun _=>rfl) (by first|rfl|simp) (.w rfl (by first|rfl|exact lm _|simp)) rfl rfl rfl rfl rfl rfl rfl rfl rfl rfl) ?_
     cases H
     refine aq (du 212) ?_
     exact wo
    ·cases H
     exact wo
   cases H
   refine ee ?_
   exact wo
  ·cases H
   refine ed (fun hq=>?_)
   cases hq
   refine wI ?_
   exact wo
 cases H
 refine bU (wS 212 210) ?_
 exact bV
def kT (a0:List aC) (v1:Int):Int→Option (cB (Int) (cB (Int) (Bool)))
 |v4=>bif ltB v4 v1 then(Un (ix a0 v4) fun x5=>Un (ix a0 v1) fun x6=>bif(eqB x5.ID.dL x6.ID.dL&&(eqB x5.ID.bM x6.ID.bM&&true)) then(dn (dn (some false))) else(some (.next (WR (v4+1))))) else(dn (some (.next (WR (v1+1)))))
def kS (a0:List aC):Int→Option (cB (Int) (Bool))
 |v1=>bif ltB v1 ((a0.length:Nat):Int) then(Un (ix a0 v1) fun x2=>Un (dO x2) fun r3=>bif !r3 then(dn (some false)) else(iter (kT a0 v1) FU 0)) else(dn (some (leB ((a0.length:Nat):Int) 4)))
def pf (a0:List aC):Option Bool:=
 iter (kS a0) FU 0
theorem Bs {a0:List aC} {r:Bool} (H:pf a0=some r):Fn Tryz.prog 191 [aL (a0.map cm)] [.c (.d (.b r))]:=by
 refine fI Tryz.func191 Tryz.ntmps191 ?_
 refine iT H (fun q=>⟨[(0,.v (.c (.d false (.l (a0.map cm))))),(3,tI q)],[],0⟩) ?_
 rintro v1 o H
 try dsimp only
 refine wI ?_
 refine cC H ?_ ?_<;>intro H
 ·obtain⟨x2,hx2,H⟩:=ob H
  refine nA (xdT (enc:=cm) hx2) ?_
  obtain⟨r3,q3,H⟩:=ob H
  refine nA (ca (hF:=fO q3)) ?_
  refine cC H ?_ ?_<;>intro H
  ·obtain⟨r0,Hd,rfl⟩:=dnE H
   refine lT (fun hq=>?_)
   have H:=Hd.trans (congrArg some hq)
   refine wI ?_
   cases H
   exact ah
  ·refine iT H (fun q=>⟨[(0,.v (.c (.d false (.l (a0.map cm))))),(3,tI v1),(4,tI q)],[],0⟩) ?_
   rintro v4 o H
   try dsimp only
   refine wI ?_
   refine cC H ?_ ?_<;>intro H
   ·refine dI ?_
    obtain⟨x5,hx5,H⟩:=ob H
    refine dA (xdT (enc:=cm) hx5) ?_
    obtain⟨x6,hx6,H⟩:=ob H
    refine dA (xdT (enc:=cm) hx6) ?_
    refine wI ?_
    refine cC H ?_ ?_<;>intro H
    ·obtain⟨r0,Hd,rfl⟩:=dnE H
     refine lT (fun hq=>?_)
     have H:=Hd.trans (congrArg some hq)
     refine wI ?_
     obtain⟨r0,Hd,rfl⟩:=dnE H
     refine lT (fun hq=>?_)
     have H:=Hd.trans (congrArg some hq)
     refine wI ?_
     cases H
     exact ah
    ·cases H
     refine ee ?_
     exact wo
   ·obtain⟨r0,Hd,rfl⟩:=dnE H
    refine ed (fun hq=>?_)
    have H:=Hd.trans (congrArg some hq)
    refine wI ?_
    cases H
    refine ee ?_
    exact wo
 ·obtain⟨r0,Hd,rfl⟩:=dnE H
  refine ed (fun hq=>?_)
  have H:=Hd.trans (congrArg some hq)
  refine wI ?_
  cases H
  exact ah
end Go.AM
