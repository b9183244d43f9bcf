/- A part. -/
import Derived.Test.YtljhooecmjejiaaGreatS0
import Derived.Test.YtljhooecmjejiaaGreatS2
set_option linter.unusedVariables false
open Option renaming bind→Vj
namespace Go.AM
open Go.Proofs
attribute [local irreducible] AWN NS AWO AWR AWC DR cZ ey
set_option maxRecDepth 100000
set_option maxHeartbeats 40000000
def Cp (a0:Int) (a1:Int):Option Int:=
 Vj (cH a1 1 1000000000000) fun r1=>bif !r1 then(some 0) else(bif !eqB a1 0 then(bif !eqB a1 0 then(some (Int.tmod (WR ((Int.tmod a0 a1)+a1)) a1)) else none) else none)
theorem vL {a0:Int} {a1:Int} {r:Int} (H:Cp a0 a1=some r):Fn Tryz.prog 292 [aI a0,aI a1] [.c (.d (.i .i64 r))]:=by
 refine fI Tryz.func292 Tryz.ntmps292 ?_
 obtain⟨r1,q1,H⟩:=ob H
 refine nA (ca (hF:=bL q1)) ?_
 refine cC H ?_ ?_<;>intro H
 ·cases H
  exact ah
 ·obtain⟨h,H⟩:=rq H
  refine nA (ir rfl rfl rfl (ne0 h)) ?_
  obtain⟨h,H⟩:=rq H
  refine nA (ir rfl rfl rfl (ne0 h)) ?_
  cases H
  exact ah
def g8 (a0:bb):Option Bool:=
 Vj (cH a0.cf 0 1) fun r1=>Vj (bif r1 then(Vj (cH a0.em 1 100000) fun r3=>bif r3 then(bif leB ((a0.aQ.length:Nat):Int) 60 then(Vj (cH a0.gV 0 2147483646) fun r4=>some r4) else(some false)) else(some false)) else(some false)) fun(v2:Bool)=>some v2
theorem pa {a0:bb} {r:Bool} (H:g8 a0=some r):Fn Tryz.prog 85 [.agg (ei a0)] [.c (.d (.b r))]:=by
 refine fI Tryz.func85 Tryz.ntmps85 ?_
 obtain⟨r1,q1,H⟩:=ob H
 refine nA (ca (hF:=bL q1)) ?_
 obtain⟨v2,Hj,H⟩:=ob H
 refine jR ⟨[(2,tB v2)],[],0⟩ ?_ ?_
 ·have H:=Hj
  refine gC H ?_ ?_<;>intro H
  ·obtain⟨r3,q3,H⟩:=ob H
   refine nG (ca (hF:=bL q3)) ?_
   refine gC H ?_ ?_<;>intro H
   ·refine gC H ?_ ?_<;>intro H
    ·obtain⟨r4,q4,H⟩:=ob H
     refine nG (ca (hF:=bL q4)) ?_
     cases H
     exact wo
    ·cases H
     exact wo
   ·cases H
    exact wo
  ·cases H
   exact wo
 cases H
 exact ah
def ja (a0:bP):Option Bool:=
 Vj (cH a0.fM 1 6) fun r1=>Vj (bif r1 then(bif leB 0 a0.fM then(Vj (cH a0.fA 0 (WR ((kw .i64 1 a0.fM)-1))) fun r3=>some r3) else none) else(some false)) fun(v2:Bool)=>some v2
theorem oA {a0:bP} {r:Bool} (H:ja a0=some r):Fn Tryz.prog 57 [.agg (nh a0)] [.c (.d (.b r))]:=by
 refine fI Tryz.func57 Tryz.ntmps57 ?_
 refine dI ?_
 obtain⟨r1,q1,H⟩:=ob H
 refine dA (ca (hF:=bL q1)) ?_
 obtain⟨v2,Hj,H⟩:=ob H
 refine fF ⟨[(2,tB v2)],[],0⟩ ?_ ?_
 ·have H:=Hj
  refine wI ?_
  refine dC H ?_ ?_<;>intro H
  ·obtain⟨h,H⟩:=rq H
   refine dG (Ii h rfl rfl rfl rfl) ?_
   obtain⟨r3,q3,H⟩:=ob H
   refine dG (ca (hF:=bL q3)) ?_
   refine wI ?_
   cases H
   exact wo
  ·refine wI ?_
   cases H
   exact wo
 refine wI ?_
 cases H
 exact ah
def fE (a0:aP):Int→Option (cp (Int) (Bool))
 |v9=>bif ltB v9 ((a0.aS.length:Nat):Int) then(Vj (ix a0.aS v9) fun x10=>bif ltB 60 ((x10.aQ.length:Nat):Int) then(dn (some false)) else(some (.next (WR (v9+1))))) else(dn (Vj (bif eqB a0.bm (WR (((a0.aS.length:Nat):Int)+1)) then(bif leB ((a0.aS.length:Nat):Int) 24 then(some (leB ((a0.aF.length:Nat):Int) 8)) else(some false)) else(some false)) fun(v11:Bool)=>some v11))
def gu (a0:aP):Int→Option (cp (Int) (Bool))
 |v1=>bif ltB v1 ((a0.aF.length:Nat):Int) then(Vj (ix a0.aF v1) fun x2=>Vj (cH x2.cT (WR (a0.bm+1)) (WR ((WR (a0.bm+8))-1))) fun r3=>Vj (bif !r3 then(some true) else(bif ltB 0 v1 then(Vj (ix a0.aF (WR (v1-1))) fun x5=>Vj (ix a0.aF v1) fun x6=>bif leB x6.cT x5.cT then(some true) else(Vj (ix a0.aF v1) fun x7=>some (ltB 60 ((x7.aQ.length:Nat):Int)))) else(Vj (ix a0.aF v1) fun x8=>some (ltB 60 ((x8.aQ.length:Nat):Int))))) fun(v4:Bool)=>bif v4 then(dn (some false)) else(some (.next (WR (v1+1))))) else(dn (iter (fE a0) FU 0))
def gG (a0:aP):Option Bool:=
 iter (gu a0) FU 0
theorem oB {a0:aP} {r:Bool} (H:gG a0=some r):Fn Tryz.prog 245 [.agg (mK a0)] [.c (.d (.b r))]:=by
 refine fI Tryz.func245 Tryz.ntmps245 ?_
 refine iT H (fun q=>⟨[(1,tP 0),(3,tI q)],[(0,.var 39 (kM [.f,.f] (co a0)))],1⟩) ?_
 rintro v1 o H
 try dsimp only
 refine wI ?_
 refine cC H ?_ ?_<;>intro H
 ·refine dI ?_
  obtain⟨x2,hx2,H⟩:=ob H
  refine dA (xdT (enc:=aG) hx2) ?_
  obtain⟨r3,q3,H⟩:=ob H
  refine dA (ca (hF:=bL q3)) ?_
  obtain⟨v4,Hj,H⟩:=ob H
  refine fF ⟨[(1,tP 0),(3,tI v1),(56,tB v4)],[(0,.var 39 (kM [.f,.f] (co a0)))],1⟩ ?_ ?_
  ·have H:=Hj
   refine wI ?_
   refine dC H ?_ ?_<;>intro H
   ·refine wI ?_
    cases H
    exact wo
   ·refine dC H ?_ ?_<;>intro H
    ·obtain⟨x5,hx5,H⟩:=ob H
     refine dG (xdT (enc:=aG) hx5) ?_
     obtain⟨x6,hx6,H⟩:=ob H
     refine dG (xdT (enc:=aG) hx6) ?_
     refine dC H ?_ ?_<;>intro H
     ·refine wI ?_
      cases H
      exact wo
     ·obtain⟨x7,hx7,H⟩:=ob H
      refine dG (xdT (enc:=aG) hx7) ?_
      refine wI ?_
      cases H
      exact wo
    ·obtain⟨x8,hx8,H⟩:=ob H
     refine dG (xdT (enc:=aG) hx8) ?_
     refine wI ?_
     cases H
     exact wo
  refine wI ?_
  refine cC H ?_ ?_<;>intro H
  ·refine wI ?_
   obtain⟨r0,Hd,rfl⟩:=dnE H
   refine ks (fun hq=>?_)
   have H:=Hd.trans (congrArg some hq)
   refine wI ?_
   cases H
   exact ah
  ·refine wI ?_
   cases H
   refine dU ?_
   exact wo
 ·obtain⟨r0,Hd,rfl⟩:=dnE H
  refine dT (fun hq=>?_)
  have H:=Hd.trans (congrArg some hq)
  refine wI ?_
  refine iT H (fun q=>⟨[(1,tP 0),(4,tI q)],[(0,.var 39 (kM [.f,.f] (co a0)))],1⟩) ?_
  rintro v9 o H
  try dsimp only
  refine wI ?_
  refine cC H ?_ ?_<;>intro H
  ·obtain⟨x10,hx10,H⟩:=ob H
   refine nA (xdT (enc:=dQ) hx10) ?_
   refine cC H ?_ ?_<;>intro H
   ·obtain⟨r0,Hd,rfl⟩:=dnE H
    refine ks (fun hq=>?_)
    have H:=Hd.trans (congrArg some hq)
    refine wI ?_
    cases H
    exact ah
   ·cases H
    refine dU ?_
    exact wo
  ·obtain⟨r0,Hd,rfl⟩:=dnE H
   refine dT (fun hq=>?_)
   have H:=Hd.trans (congrArg some hq)
   refine wI ?_
   obtain⟨v11,Hj,H⟩:=ob H
   refine jR ⟨[(2,tB v11)],[],0⟩ ?_ ?_
   ·have H:=Hj
    refine gC H ?_ ?_<;>intro H
    ·refine gC H ?_ ?_<;>intro H
     ·cases H
      exact wo
     ·cases H
      exact wo
    ·cases H
     exact wo
   cases H
   exact ah
def fH (a0:dh):Option Bool:=
 Vj (bif leB 0 a0.au then(Vj (cH a0.cL 0 100000) fun r2=>bif r2 then(Vj (cH a0.er 0 a0.cL) fun r3=>some r3) else(some false)) else(some false)) fun(v1:Bool)=>some v1
theorem g7 {a0:dh} {r:Bool} (H:fH a0=some r):Fn Tryz.prog 141 [.agg (ue a0)] [.c (.d (.b r))]:=by
 refine fI Tryz.func141 Tryz.ntmps141 ?_
 obtain⟨v1,Hj,H⟩:=ob H
 refine jR ⟨[(2,tB v1)],[],0⟩ ?_ ?_
 ·have H:=Hj
  refine gC H ?_ ?_<;>intro H
  ·obtain⟨r2,q2,H⟩:=ob H
   refine nG (ca (hF:=bL q2)) ?_
   refine gC H ?_ ?_<;>intro H
   ·obtain⟨r3,q3,H⟩:=ob H
    refine nG (ca (hF:=bL q3)) ?_
    cases H
    exact wo
   ·cases H
    exact wo
  ·cases H
   exact wo
 cases H
 exact ah
def kO (a0:cU):Option Bool:=
 Vj (cH a0.f5 0 2) fun r1=>Vj (bif r1 then(Vj (cH a0.eR 0 4) fun r3=>bif r3 then(Vj (cH a0.f7 0 3) fun r4=>some r4) else(some false)) else(some false)) fun(v2:Bool)=>some v2
theorem yl {a0:cU} {r:Bool} (H:kO a0=some r):Fn Tryz.prog 247 [.agg (uX a0)] [.c (.d (.b r))]:=by
 refine fI Tryz.func247 Tryz.ntmps247 ?_
 obtain⟨r1,q1,H⟩:=ob H
 refine nA (ca (hF:=bL q1)) ?_
 obtain⟨v2,Hj,H⟩:=ob H
 refine jR ⟨[(2,tB v2)],[],0⟩ ?_ ?_
 ·have H:=Hj
  refine gC H ?_ ?_<;>intro H
  ·obtain⟨r3,q3,H⟩:=ob H
   refine nG (ca (hF:=bL q3)) ?_
   refine gC H ?_ ?_<;>intro H
   ·obtain⟨r4,q4,H⟩:=ob H
    refine nG (ca (hF:=bL q4)) ?_
    cases H
    exact wo
   ·cases H
    exact wo
  ·cases H
   exact wo
 cases H
 exact ah
def iy (a0:a9):Int→Option (cp (Int) (Bool))
 |v1=>bif ltB v1 ((a0.aw.length:Nat):Int) then(Vj (ix a0.aw v1) fun x2=>Vj (bif !eqB x2.cT (WR ((WR (a0.bm-((a0.aw.length:Nat):Int)))+v1)) then(some true) else(Vj (ix a0.aw v1) fun x4=>some (ltB 60 ((x4.aQ.length:Nat):Int)))) fun(v3:Bool)=>bif v3 then(dn (some false)) else(some (.next (WR (v1+1))))) else(dn (Vj (cH a0.bm 1 100000) fun r5=>Vj (bif r5 then(bif leB ((a0.aw.length:Nat):Int) 8 then(some (leB 1 (WR (a0.bm-((a0.aw.length:Nat):Int))))) else(some false)) else(some false)) fun(v6:Bool)=>some v6))
def iH (a0:a9):Option Bool:=
 iter (iy a0) FU 0
theorem lN {a0:a9} {r:Bool} (H:iH a0=some r):Fn Tryz.prog 295 [.agg (kx a0)] [.c (.d (.b r))]:=by
 refine fI Tryz.func295 Tryz.ntmps295 ?_
 refine iT H (fun q=>⟨[(1,tP 0),(3,tI q)],[(0,.var 56 (kM [.f] (d5 a0)))],1⟩) ?_
 rintro v1 o H
 try dsimp only
 refine wI ?_
 refine cC H ?_ ?_<;>intro H
 ·refine dI ?_
  obtain⟨x2,hx2,H⟩:=ob H
  refine dA (xdT (enc:=aG) hx2) ?_
  obtain⟨v3,Hj,H⟩:=ob H
  refine fF ⟨[(1,tP 0),(3,tI v1),(35,tB v3)],[(0,.var 56 (kM [.f] (d5 a0)))],1⟩ ?_ ?_
  ·have H:=Hj
   refine wI ?_
   refine dC H ?_ ?_<;>intro H
   ·refine wI ?_
    cases H
    exact wo
   ·obtain⟨x4,hx4,H⟩:=ob H
    refine dG (xdT (enc:=aG) hx4) ?_
    refine wI ?_
    cases H
    exact wo
  refine wI ?_
  refine cC H ?_ ?_<;>intro H
  ·refine wI ?_
   obtain⟨r0,Hd,rfl⟩:=dnE H
   refine ks (fun hq=>?_)
   have H:=Hd.trans (congrArg some hq)
   refine wI ?_
   cases H
   exact ah
  ·refine wI ?_
   cases H
   refine dU ?_
   exact wo
 ·obtain⟨r0,Hd,rfl⟩:=dnE H
  refine dT (fun hq=>?_)
  have H:=Hd.trans (congrArg some hq)
  refine wI ?_
  obtain⟨r5,q5,H⟩:=ob H
  refine nA (ca (hF:=bL q5)) ?_
  obtain⟨v6,Hj,H⟩:=ob H
  refine jR ⟨[(2,tB v6)],[],0⟩ ?_ ?_
  ·have H:=Hj
   refine gC H ?_ ?_<;>intro H
   ·refine gC H ?_ ?_<;>intro H
    ·cases H
     exact wo
    ·cases H
     exact wo
   ·cases H
    exact wo
  cases H
  exact ah
def gP (a0:aj):Int→Option (cp (Int) (Bool))
 |v1=>bif ltB v1 ((a0.aD.length:Nat):Int) then(Vj (ix a0.aD v1) fun x2=>Vj (bif ltB x2.au 0 then(some true) else(Vj (ix a0.aD v1) fun x4=>Vj (cH x4.eg 1 100000) fun r5=>bif !r5 then(some true) else(bif ltB 0 v1 then(Vj (ix a0.aD (WR (v1-1))) fun x6=>Vj (ix a0.aD v1) fun x7=>some (leB x7.au x6.au)) else(some false)))) fun(v3:Bool)=>bif v3 then(dn (some false)) else(some (.next (WR (v1+1))))) else(dn (Vj (cH a0.eZ 0 100000) fun r8=>Vj (bif r8 then(Vj (cH a0.bQ 0 a0.eZ) fun r10=>bif r10 then(Vj (cH a0.eH 0 a0.eZ) fun r11=>bif r11 then(bif leB ((a0.aD.length:Nat):Int) 8 then(Vj (lb a0) fun r12=>some (eqB (WR ((WR (a0.bQ+a0.eH))+r12)) a0.eZ)) else(some false)) else(some false)) else(some false)) else(some false)) fun(v9:Bool)=>some v9))
def fC (a0:aj):Option Bool:=
 iter (gP a0) FU 0
theorem iw {a0:aj} {r:Bool} (H:fC a0=some r):Fn Tryz.prog 188 [.agg (dB a0)] [.c (.d (.b r))]:=by
 refine fI Tryz.func188 Tryz.ntmps188 ?_
 refine iT H (fun q=>⟨[(1,tP 0),(3,tI q)],[(0,.var 66 (kM [.f] (cS a0)))],1⟩) ?_
 rintro v1 o H
 try dsimp only
 refine wI ?_
 refine cC H ?_ ?_<;>intro H
 ·refine dI ?_
  obtain⟨x2,hx2,H⟩:=ob H
  refine dA (xdT (enc:=bw) hx2) ?_
  obtain⟨v3,Hj,H⟩:=ob H
  refine fF ⟨[(1,tP 0),(3,tI v1),(47,tB v3)],[(0,.var 66 (kM [.f] (cS a0)))],1⟩ ?_ ?_
  ·have H:=Hj
   refine wI ?_
   refine dC H ?_ ?_<;>intro H
   ·refine wI ?_
    cases H
    exact wo
   ·obtain⟨x4,hx4,H⟩:=ob H
    refine dG (xdT (enc:=bw) hx4) ?_
    obtain⟨r5,q5,H⟩:=ob H
    refine dG (ca (hF:=bL q5)) ?_
    refine dC H ?_ ?_<;>intro H
    ·refine wI ?_
     cases H
     exact wo
    ·refine dC H ?_ ?_<;>intro H
     ·obtain⟨x6,hx6,H⟩:=ob H
      refine dG (xdT (enc:=bw) hx6) ?_
      obtain⟨x7,hx7,H⟩:=ob H
      refine dG (xdT (enc:=bw) hx7) ?_
      refine wI ?_
      cases H
      exact wo
     ·refine wI ?_
      cases H
      exact wo
  refine wI ?_
  refine cC H ?_ ?_<;>intro H
  ·refine wI ?_
   obtain⟨r0,Hd,rfl⟩:=dnE H
   refine ks (fun hq=>?_)
   have H:=Hd.trans (congrArg some hq)
   refine wI ?_
   cases H
   exact ah
  ·refine wI ?_
   cases H
   refine dU ?_
   exact wo
 ·obtain⟨r0,Hd,rfl⟩:=dnE H
  refine dT (fun hq=>?_)
  have H:=Hd.trans (congrArg some hq)
  refine wI ?_
  refine dI ?_
  obtain⟨r8,q8,H⟩:=ob H
  refine dA (ca (hF:=bL q8)) ?_
  obtain⟨v9,Hj,H⟩:=ob H
  refine fF ⟨[(2,tB v9)],[],0⟩ ?_ ?_
  ·have H:=Hj
   refine wI ?_
   refine dC H ?_ ?_<;>intro H
   ·obtain⟨r10,q10,H⟩:=ob H
    refine dG (ca (hF:=bL q10)) ?_
    refine dC H ?_ ?_<;>intro H
    ·obtain⟨r11,q11,H⟩:=ob H
     refine dG (ca (hF:=bL q11)) ?_
     refine dC H ?_ ?_<;>intro H
     ·refine dC H ?_ ?_<;>intro H
      ·obtain⟨r12,q12,H⟩:=ob H
       refine dG (ca (hF:=yt q12)) ?_
       refine wI ?_
       cases H
       exact wo
      ·refine wI ?_
       cases H
       exact wo
     ·refine wI ?_
      cases H
      exact wo
    ·refine wI ?_
     cases H
     exact wo
   ·refine wI ?_
    cases H
    exact wo
  refine wI ?_
  cases H
  exact ah
def kZ (a0:aj) (a1:Int):Option Int:=
 Vj (mB a0 a1) fun r1=>bif ltB r1 0 then(some 0) else(Vj (ix a0.aD r1) fun x2=>some x2.eg)
theorem tG {a0:aj} {a1:Int} {r:Int} (H:kZ a0 a1=some r):Fn Tryz.prog 250 [.agg (dB a0),aI a1] [.c (.d (.i .i64 r))]:=by
 refine fI Tryz.func250 Tryz.ntmps250 ?_
 obtain⟨r1,q1,H⟩:=ob H
 refine nA (ca (hF:=vT q1)) ?_
 refine cC H ?_ ?_<;>intro H
 ·cases H
  exact ah
 ·obtain⟨x2,hx2,H⟩:=ob H
  refine nA (xdT (enc:=bw) hx2) ?_
  cases H
  exact ah
end Go.AM
