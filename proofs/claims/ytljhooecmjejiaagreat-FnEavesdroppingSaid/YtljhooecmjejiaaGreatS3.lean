/- A part. -/
import Derived.Test.YtljhooecmjejiaaGreatS0
import Derived.Test.YtljhooecmjejiaaGreatS1
set_option linter.unusedVariables false
open Option renaming bind→Vj
namespace Go.AM
open Go.Proofs
attribute [local irreducible] AWN NS AWO AWR AWC DR cZ ey
set_option maxRecDepth 100000
set_option maxHeartbeats 40000000
def bS (a0:aE) (a1:Int):Option (Int×aE):=
 bif leB a1 0 then(some (0,a0)) else(bif leB a1 256 then(Vj (py a0) fun r1=>bif !eqB a1 0 then(some (Int.tmod r1.1 a1,r1.2)) else none) else(Vj (py a0) fun r2=>Vj (py r2.2) fun r3=>Vj (py r3.2) fun r4=>bif !eqB a1 0 then(some (Int.tmod (WR ((WR ((WR (r2.1*65536))+(WR (r3.1*256))))+r4.1)) a1,r4.2)) else none))
theorem bz {a0:aE} {a1:Int} {r:Int×aE} (H:bS a0 a1=some r):FnW Tryz.prog 74 (.var 143 (kM [.f] (bg a0))) [tP 200,tI a1] (.var 143 (kM [.f] (bg r.2))) [.c (.d (.i .i64 r.1))]:=by
 refine fW Tryz.func74 Tryz.ntmps74 ?_
 refine cC H ?_ ?_<;>intro H
 ·cases H
  exact eu
 ·refine cC H ?_ ?_<;>intro H
  ·obtain⟨r1,q1,H⟩:=ob H
   refine sA (cw (o:=200) (qD q1)) ?_
   obtain⟨h,H⟩:=rq H
   refine nA (ir rfl rfl rfl (ne0 h)) ?_
   cases H
   exact eu
  ·obtain⟨r2,q2,H⟩:=ob H
   refine sA (cw (o:=200) (qD q2)) ?_
   obtain⟨r3,q3,H⟩:=ob H
   refine sA (cw (o:=200) (qD q3)) ?_
   obtain⟨r4,q4,H⟩:=ob H
   refine sA (cw (o:=200) (qD q4)) ?_
   obtain⟨h,H⟩:=rq H
   refine nA (ir rfl rfl rfl (ne0 h)) ?_
   cases H
   exact eu
def kN (a0:aM) (v1:Int) (x2:fx):Int→Option (cp (Int) (cp (Int) (Bool)))
 |v4=>bif ltB v4 ((x2.cW.length:Nat):Int) then(Vj (ix x2.cW v4) fun x5=>Vj (cH x5 0 (WR (((a0.aZ.length:Nat):Int)-1))) fun r6=>Vj (bif !r6 then(some true) else(bif eqB x5 v1 then(some true) else(bif ltB 0 v4 then(Vj (ix x2.cW (WR (v4-1))) fun x8=>bif leB x5 x8 then(some true) else(Vj (ix a0.aZ x5) fun x9=>Vj (xo x9.cW v1) fun r10=>some (!r10))) else(Vj (ix a0.aZ x5) fun x11=>Vj (xo x11.cW v1) fun r12=>some (!r12))))) fun(v7:Bool)=>bif v7 then(dn (dn (some false))) else(some (.next (WR (v4+1))))) else(dn (some (.next (WR (v1+1)))))
def kL (a0:aM):Int→Option (cp (Int) (Bool))
 |v1=>bif ltB v1 ((a0.aZ.length:Nat):Int) then(Vj (ix a0.aZ v1) fun x2=>Vj (cH x2.f5 0 2) fun r3=>bif !r3 then(dn (some false)) else(iter (kN a0 v1 x2) FU 0)) else(dn (Vj (cH ((a0.aZ.length:Nat):Int) 1 6) fun r13=>some r13))
def mw (a0:aM):Option Bool:=
 iter (kL a0) FU 0
theorem ve {a0:aM} {r:Bool} (H:mw a0=some r):Fn Tryz.prog 122 [.agg (lx a0)] [.c (.d (.b r))]:=by
 refine fI Tryz.func122 Tryz.ntmps122 ?_
 refine iT H (fun q=>⟨[(1,tP 0),(3,tI q)],[(0,.var 26 [.d false (.l (a0.aZ.map dW))])],1⟩) ?_
 rintro v1 o H
 try dsimp only
 refine wI ?_
 refine cC H ?_ ?_<;>intro H
 ·obtain⟨x2,hx2,H⟩:=ob H
  refine nA (xdT (enc:=dW) hx2) ?_
  obtain⟨r3,q3,H⟩:=ob H
  refine nA (ca (hF:=bL q3)) ?_
  refine cC H ?_ ?_<;>intro H
  ·obtain⟨r0,Hd,rfl⟩:=dnE H
   refine ks (fun hq=>?_)
   have H:=Hd.trans (congrArg some hq)
   refine wI ?_
   cases H
   exact ah
  ·refine iT H (fun q=>⟨[(1,tP 0),(3,tI v1),(4,tP 1),(5,tI q)],[(0,.var 26 [.d false (.l (a0.aZ.map dW))]),(1,.var 157 (kM [.f] (M5 x2)))],2⟩) ?_
   rintro v4 o H
   try dsimp only
   refine wI ?_
   refine cC H ?_ ?_<;>intro H
   ·obtain⟨x5,hx5,H⟩:=ob H
    refine nA (xdT (enc:=eI) hx5) ?_
    obtain⟨r6,q6,H⟩:=ob H
    refine nA (ca (hF:=bL q6)) ?_
    obtain⟨v7,Hj,H⟩:=ob H
    refine jR ⟨[(1,tP 0),(3,tI v1),(4,tP 1),(5,tI v4),(71,tB v7)],[(0,.var 26 [.d false (.l (a0.aZ.map dW))]),(1,.var 157 (kM [.f] (M5 x2)))],2⟩ ?_ ?_
    ·have H:=Hj
     refine gC H ?_ ?_<;>intro H
     ·cases H
      exact wo
     ·refine gC H ?_ ?_<;>intro H
      ·cases H
       exact wo
      ·refine gC H ?_ ?_<;>intro H
       ·obtain⟨x8,hx8,H⟩:=ob H
        refine nG (xdT (enc:=eI) hx8) ?_
        refine gC H ?_ ?_<;>intro H
        ·cases H
         exact wo
        ·obtain⟨x9,hx9,H⟩:=ob H
         refine nG (xdT (enc:=dW) hx9) ?_
         obtain⟨r10,q10,H⟩:=ob H
         refine nG (ca (hF:=yx q10)) ?_
         cases H
         exact wo
       ·obtain⟨x11,hx11,H⟩:=ob H
        refine nG (xdT (enc:=dW) hx11) ?_
        obtain⟨r12,q12,H⟩:=ob H
        refine nG (ca (hF:=yx q12)) ?_
        cases H
        exact wo
    refine cC H ?_ ?_<;>intro H
    ·obtain⟨r0,Hd,rfl⟩:=dnE H
     refine ks (fun hq=>?_)
     have H:=Hd.trans (congrArg some hq)
     refine wI ?_
     obtain⟨r0,Hd,rfl⟩:=dnE H
     refine ks (fun hq=>?_)
     have H:=Hd.trans (congrArg some hq)
     refine wI ?_
     cases H
     exact ah
    ·cases H
     refine dU ?_
     exact wo
   ·obtain⟨r0,Hd,rfl⟩:=dnE H
    refine dT (fun hq=>?_)
    have H:=Hd.trans (congrArg some hq)
    refine wI ?_
    cases H
    refine dU ?_
    exact wo
 ·obtain⟨r0,Hd,rfl⟩:=dnE H
  refine dT (fun hq=>?_)
  have H:=Hd.trans (congrArg some hq)
  refine wI ?_
  obtain⟨r13,q13,H⟩:=ob H
  refine nA (ca (hF:=bL q13)) ?_
  cases H
  exact ah
def fy (a0:bB):Int→Option (cp (Int) (Bool))
 |v1=>bif ltB v1 ((a0.bJ.length:Nat):Int) then(Vj (ix a0.bJ v1) fun x2=>Vj (cH x2 0 3) fun r3=>Vj (bif !r3 then(some true) else(bif ltB 0 v1 then(Vj (ix a0.bJ (WR (v1-1))) fun x5=>Vj (ix a0.bJ v1) fun x6=>some (leB x6 x5)) else(some false))) fun(v4:Bool)=>bif v4 then(dn (some false)) else(some (.next (WR (v1+1))))) else(dn (Vj (cH a0.iR 1 1000) fun r7=>Vj (bif r7 then(Vj (cH a0.iQ 1 4) fun r9=>bif r9 then(Vj (cH a0.eA 1 100000) fun r10=>some r10) else(some false)) else(some false)) fun(v8:Bool)=>some v8))
def fo (a0:bB):Option Bool:=
 iter (fy a0) FU 0
theorem kQ {a0:bB} {r:Bool} (H:fo a0=some r):Fn Tryz.prog 190 [.agg (og a0)] [.c (.d (.b r))]:=by
 refine fI Tryz.func190 Tryz.ntmps190 ?_
 refine iT H (fun q=>⟨[(1,tP 0),(3,tI q)],[(0,.var 50 (kM [.f] (dM a0)))],1⟩) ?_
 rintro v1 o H
 try dsimp only
 refine wI ?_
 refine cC H ?_ ?_<;>intro H
 ·refine dI ?_
  obtain⟨x2,hx2,H⟩:=ob H
  refine dA (xdT (enc:=eI) hx2) ?_
  obtain⟨r3,q3,H⟩:=ob H
  refine dA (ca (hF:=bL q3)) ?_
  obtain⟨v4,Hj,H⟩:=ob H
  refine fF ⟨[(1,tP 0),(3,tI v1),(35,tB v4)],[(0,.var 50 (kM [.f] (dM a0)))],1⟩ ?_ ?_
  ·have H:=Hj
   refine wI ?_
   refine dC H ?_ ?_<;>intro H
   ·refine wI ?_
    cases H
    exact wo
   ·refine dC H ?_ ?_<;>intro H
    ·obtain⟨x5,hx5,H⟩:=ob H
     refine dG (xdT (enc:=eI) hx5) ?_
     obtain⟨x6,hx6,H⟩:=ob H
     refine dG (xdT (enc:=eI) hx6) ?_
     refine wI ?_
     cases H
     exact wo
    ·refine wI ?_
     cases H
     exact wo
  refine wI ?_
  refine cC H ?_ ?_<;>intro H
  ·refine wI ?_
   obtain⟨r0,Hd,rfl⟩:=dnE H
   refine ks (fun hq=>?_)
   have H:=Hd.trans (congrArg some hq)
   refine wI ?_
   cases H
   exact ah
  ·refine wI ?_
   cases H
   refine dU ?_
   exact wo
 ·obtain⟨r0,Hd,rfl⟩:=dnE H
  refine dT (fun hq=>?_)
  have H:=Hd.trans (congrArg some hq)
  refine wI ?_
  obtain⟨r7,q7,H⟩:=ob H
  refine nA (ca (hF:=bL q7)) ?_
  obtain⟨v8,Hj,H⟩:=ob H
  refine jR ⟨[(2,tB v8)],[],0⟩ ?_ ?_
  ·have H:=Hj
   refine gC H ?_ ?_<;>intro H
   ·obtain⟨r9,q9,H⟩:=ob H
    refine nG (ca (hF:=bL q9)) ?_
    refine gC H ?_ ?_<;>intro H
    ·obtain⟨r10,q10,H⟩:=ob H
     refine nG (ca (hF:=bL q10)) ?_
     cases H
     exact wo
    ·cases H
     exact wo
   ·cases H
    exact wo
  cases H
  exact ah
def fG (a0:Int):Option Bool:=
 Vj (cH a0 1 2147483646) fun r1=>some r1
theorem gm {a0:Int} {r:Bool} (H:fG a0=some r):Fn Tryz.prog 243 [aI a0] [.c (.d (.b r))]:=by
 refine fI Tryz.func243 Tryz.ntmps243 ?_
 obtain⟨r1,q1,H⟩:=ob H
 refine nA (ca (hF:=bL q1)) ?_
 cases H
 exact ah
def fm (a0:dF):Option Bool:=
 Vj (cH a0.dR 0 3) fun r1=>Vj (bif r1 then(Vj (cH a0.bN 0 99) fun r3=>some r3) else(some false)) fun(v2:Bool)=>some v2
theorem kP {a0:dF} {r:Bool} (H:fm a0=some r):Fn Tryz.prog 294 [.agg (sQ a0)] [.c (.d (.b r))]:=by
 refine fI Tryz.func294 Tryz.ntmps294 ?_
 obtain⟨r1,q1,H⟩:=ob H
 refine nA (ca (hF:=bL q1)) ?_
 obtain⟨v2,Hj,H⟩:=ob H
 refine jR ⟨[(2,tB v2)],[],0⟩ ?_ ?_
 ·have H:=Hj
  refine gC H ?_ ?_<;>intro H
  ·obtain⟨r3,q3,H⟩:=ob H
   refine nG (ca (hF:=bL q3)) ?_
   cases H
   exact wo
  ·cases H
   exact wo
 cases H
 exact ah
def pj (a0:aC) (a1:bB) (a2:Int):Option ag:=
 Vj (qI a1) fun r1=>some {uH with bv:=a0,gL:=r1,aq:=(⟨1,[]⟩:a9),bW:={zV with au:=a2}}
theorem Cs {a0:aC} {a1:bB} {a2:Int} {r:ag} (H:pj a0 a1 a2=some r):Fn Tryz.prog 194 [.agg (ct a0),.agg (og a1),aI a2] [.agg (qM [.o,.z,.z] (cF r))]:=by
 refine fI Tryz.func194 Tryz.ntmps194 ?_
 refine zI (List.range 8) ?_
 obtain⟨r1,q1,H⟩:=ob H
 refine zA (ca (hF:=BD q1)) ?_
 refine wA (spx 100027) ?_
 cases H
 exact ah
def pf (a0:Int):Option aj:=
 Vj (cH a0 0 100000) fun r1=>Vj (bif !r1 then(some 0) else(some a0)) fun(v2:Int)=>some {lR with eZ:=v2,bQ:=v2}
theorem Cr {a0:Int} {r:aj} (H:pf a0=some r):Fn Tryz.prog 195 [aI a0] [.agg (qM [.z] (cS r))]:=by
 refine fI Tryz.func195 Tryz.ntmps195 ?_
 obtain⟨r1,q1,H⟩:=ob H
 refine nA (ca (hF:=bL q1)) ?_
 obtain⟨v2,Hj,H⟩:=ob H
 refine jA ⟨[(0,tI v2),(2,tP 0)],[(0,.var 66 (kM [.z] (cS lR)))],1⟩ ?_ ?_
 ·have H:=Hj
  refine cC H ?_ ?_<;>intro H
  ·cases H
   exact wo
  ·cases H
   exact wo
 cases H
 exact ah
def kh (a0:a9):Option a9:=
 Vj (qF a0.aw) fun r1=>some (⟨a0.bm,r1⟩:a9)
theorem jf {a0:a9} {r:a9} (H:kh a0=some r):Fn Tryz.prog 253 [.agg (kx a0)] [.agg (qM [.o] (d5 r))]:=by
 refine fI Tryz.func253 Tryz.ntmps253 ?_
 refine zI (List.range 7) ?_
 obtain⟨r1,q1,H⟩:=ob H
 refine zA (ca (hF:=y4 q1)) ?_
 refine wA (spx 100074) ?_
 cases H
 exact ah
def yZ (a1:Int):(Int×List Int×aE)→Option (cp (Int×List Int×aE) (List Int×aE))
 |(v1,v5,v6)=>bif ltB v1 a1 then(Vj (py v6) fun r13=>bif cM 1 (v5++[IntKind.u8.wrap (r13.1)]).length then(some (.next (WR (v1+1),(v5++[IntKind.u8.wrap (r13.1)]),r13.2))) else none) else(some (.done (v5,v6)))
def tL (a0:aE) (a1:Int):Option (List Int×aE):=
 Vj (iter (yZ a1) FU (0,([]:List Int),a0)) fun((v11,v12):List Int×aE)=>some (v11,v12)
theorem By {a0:aE} {a1:Int} {r:List Int×aE} (H:tL a0 a1=some r):FnW Tryz.prog 129 (.var 143 (kM [.f] (bg a0))) [tP 200,tI a1] (.var 143 (kM [.f] (bg r.2))) [.c (.own 5 1 (r.1.map eU8) r.1.length)]:=by
 refine fW Tryz.func129 Tryz.ntmps129 ?_
 obtain⟨⟨v11,v12⟩,Hj,H⟩:=ob H
 refine jB ⟨[(5,.v (.c (.w 210 v11.length)))],[(200,.var 143 (kM [.f] (bg v12))),(210,w5 v11)],211⟩ ?_ ?_
 ·refine iT Hj (fun q=>⟨[(0,tP 200),(1,tI a1),(5,.v (.c (.w 210 q.2.1.length))),(6,tI q.1)],[(200,.var 143 (kM [.f] (bg q.2.2))),(210,w5 q.2.1)],211⟩) ?_
  rintro⟨v1,v5,v6⟩ o H
  try dsimp only
  refine wI ?_
  refine cC H ?_ ?_<;>intro H
  ·obtain⟨r13,q13,H⟩:=ob H
   refine sA (cw (o:=200) (qD q13)) ?_
   obtain⟨h,H⟩:=rq H
   refine sA (apT (enc:=eU8) (ys:=v5) (zs:=[IntKind.u8.wrap (r13.1)]) h) ?_
   cases H
   refine dU ?_
   exact wo
  ·cases H
   refine dT (fun hq=>?_)
   cases hq
   refine wI ?_
   exact wo
 cases H
 exact eu
def tM (a0:aP):Option aP:=
 Vj (qF a0.aF) fun r1=>Vj (oH a0.aS) fun r2=>some (⟨a0.bm,r1,r2⟩:aP)
theorem BA {a0:aP} {r:aP} (H:tM a0=some r):Fn Tryz.prog 254 [.agg (mK a0)] [.agg (qM [.o,.o] (co r))]:=by
 refine fI Tryz.func254 Tryz.ntmps254 ?_
 refine zI (List.range 10) ?_
 obtain⟨r1,q1,H⟩:=ob H
 refine zA (ca (hF:=y4 q1)) ?_
 obtain⟨r2,q2,H⟩:=ob H
 refine zA (ca (hF:=xp q2)) ?_
 refine wA (spx 100078) ?_
 cases H
 exact ah
def oO (a0:bD):Option bD:=
 Vj (xt a0.bC) fun r1=>some {a0 with bC:=r1}
theorem xy {a0:bD} {r:bD} (H:oO a0=some r):Fn Tryz.prog 204 [.agg (dK a0)] [.agg (qM [.o] (gD r))]:=by
 refine fI Tryz.func204 Tryz.ntmps204 ?_
 obtain⟨r1,q1,H⟩:=ob H
 refine nA (ca (hF:=IW q1)) ?_
 cases H
 exact ah
def lM (a0:b8) (a1:b8):Int→Option (cp (Int) (Bool))
 |v1=>bif ltB v1 ((a0.Steps.length:Nat):Int) then(Vj (ix a0.Steps v1) fun x2=>Vj (ix a1.Steps v1) fun x3=>bif !eqB x2 x3 then(dn (some false)) else(some (.next (WR (v1+1))))) else(dn (some true))
def lY (a0:b8) (a1:b8):Option Bool:=
 bif ltB ((a1.Steps.length:Nat):Int) ((a0.Steps.length:Nat):Int) then(some false) else(iter (lM a0 a1) FU 0)
theorem zn {a0:b8} {a1:b8} {r:Bool} (H:lY a0 a1=some r):Fn Tryz.prog 83 [.agg (ki a0),.agg (ki a1)] [.c (.d (.b r))]:=by
 refine fI Tryz.func83 Tryz.ntmps83 ?_
 refine cC H ?_ ?_<;>intro H
 ·cases H
  exact ah
 ·refine iT H (fun q=>⟨[(2,tP 0),(3,tP 1),(5,tI q)],[(0,.var 97 [.d false (.l (a0.Steps.map eI))]),(1,.var 97 [.d false (.l (a1.Steps.map eI))])],2⟩) ?_
  rintro v1 o H
  try dsimp only
  refine wI ?_
  refine cC H ?_ ?_<;>intro H
  ·refine dI ?_
   obtain⟨x2,hx2,H⟩:=ob H
   refine dA (xdT (enc:=eI) hx2) ?_
   obtain⟨x3,hx3,H⟩:=ob H
   refine dA (xdT (enc:=eI) hx3) ?_
   refine wI ?_
   refine cC H ?_ ?_<;>intro H
   ·obtain⟨r0,Hd,rfl⟩:=dnE H
    refine ks (fun hq=>?_)
    have H:=Hd.trans (congrArg some hq)
    refine wI ?_
    cases H
    exact ah
   ·cases H
    refine dU ?_
    exact wo
  ·obtain⟨r0,Hd,rfl⟩:=dnE H
   refine dT (fun hq=>?_)
   have H:=Hd.trans (congrArg some hq)
   refine wI ?_
   cases H
   exact ah
end Go.AM
