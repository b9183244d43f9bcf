/- A part. -/
import Derived.Test.YtljhooecmjejiaaGreatS0
import Derived.Test.YtljhooecmjejiaaGreatS1
set_option linter.unusedVariables false
open Option renaming bind→Un
namespace Go.AM
open Go.Proofs
attribute [local irreducible] AWN NS AWO AWR AWC DR cZ eE
set_option maxRecDepth 100000
set_option maxHeartbeats 40000000
def oT (a0:Int):Option aj:=
 Un (cz a0 0 100000) fun r1=>Un (bif !r1 then(some 0) else(some a0)) fun(v2:Int)=>some {lD with eL:=v2,bP:=v2}
theorem Bo {a0:Int} {r:aj} (H:oT a0=some r):Fn Tryz.prog 195 [aI a0] [.agg (qM [.z] (cM r))]:=by
 refine fI Tryz.func195 Tryz.ntmps195 ?_
 obtain⟨r1,q1,H⟩:=ob H
 refine nA (ca (hF:=bK q1)) ?_
 obtain⟨v2,Hj,H⟩:=ob H
 refine jA ⟨[(0,tI v2),(2,tP 0)],[(0,.var 66 (kM [.z] (cM lD)))],1⟩ ?_ ?_
 ·have H:=Hj
  refine cC H ?_ ?_<;>intro H
  ·cases H
   exact wo
  ·cases H
   exact wo
 cases H
 exact ah
def jM (a0:a8):Option a8:=
 Un (qi a0.aw) fun r1=>some (⟨a0.bj,r1⟩:a8)
theorem iW {a0:a8} {r:a8} (H:jM a0=some r):Fn Tryz.prog 253 [.agg (ka a0)] [.agg (qM [.o] (dT r))]:=by
 refine fI Tryz.func253 Tryz.ntmps253 ?_
 refine zI (List.range 7) ?_
 obtain⟨r1,q1,H⟩:=ob H
 refine zA (ca (hF:=yd q1)) ?_
 refine wA (spx 100074) ?_
 cases H
 exact ah
def yb (a1:Int):(Int×List Int×aH)→Option (cB (Int×List Int×aH) (List Int×aH))
 |(v1,v5,v6)=>bif ltB v1 a1 then(Un (o6 v6) fun r13=>bif cS 1 (v5++[IntKind.u8.wrap (r13.1)]).length then(some (.next (WR (v1+1),(v5++[IntKind.u8.wrap (r13.1)]),r13.2))) else none) else(some (.done (v5,v6)))
def sY (a0:aH) (a1:Int):Option (List Int×aH):=
 Un (iter (yb a1) FU (0,([]:List Int),a0)) fun((v11,v12):List Int×aH)=>some (v11,v12)
theorem AA {a0:aH} {a1:Int} {r:List Int×aH} (H:sY a0 a1=some r):FnW Tryz.prog 129 (.var 143 (kM [.f] (bI a0))) [tP 200,tI a1] (.var 143 (kM [.f] (bI r.2))) [.c (.own 5 1 (r.1.map eU8) r.1.length)]:=by
 refine fW Tryz.func129 Tryz.ntmps129 ?_
 obtain⟨⟨v11,v12⟩,Hj,H⟩:=ob H
 refine jB ⟨[(5,.v (.c (.w 210 v11.length)))],[(200,.var 143 (kM [.f] (bI v12))),(210,w5 v11)],211⟩ ?_ ?_
 ·refine iT Hj (fun q=>⟨[(0,tP 200),(1,tI a1),(5,.v (.c (.w 210 q.2.1.length))),(6,tI q.1)],[(200,.var 143 (kM [.f] (bI q.2.2))),(210,w5 q.2.1)],211⟩) ?_
  rintro⟨v1,v5,v6⟩ o H
  try dsimp only
  refine wI ?_
  refine cC H ?_ ?_<;>intro H
  ·obtain⟨r13,q13,H⟩:=ob H
   refine sA (cw (o:=200) (qg q13)) ?_
   obtain⟨h,H⟩:=rq H
   refine sA (apT (enc:=eU8) (ys:=v5) (zs:=[IntKind.u8.wrap (r13.1)]) h) ?_
   cases H
   refine ee ?_
   exact wo
  ·cases H
   refine ed (fun hq=>?_)
   cases hq
   refine wI ?_
   exact wo
 cases H
 exact eB
def sZ (a0:aM):Option aM:=
 Un (qi a0.aD) fun r1=>Un (oh a0.aG) fun r2=>some (⟨a0.bj,r1,r2⟩:aM)
theorem AC {a0:aM} {r:aM} (H:sZ a0=some r):Fn Tryz.prog 254 [.agg (mx a0)] [.agg (qM [.o,.o] (cf r))]:=by
 refine fI Tryz.func254 Tryz.ntmps254 ?_
 refine zI (List.range 10) ?_
 obtain⟨r1,q1,H⟩:=ob H
 refine zA (ca (hF:=yd q1)) ?_
 obtain⟨r2,q2,H⟩:=ob H
 refine zA (ca (hF:=wr q2)) ?_
 refine wA (spx 100078) ?_
 cases H
 exact ah
def ou (a0:bJ):Option bJ:=
 Un (wx a0.b7) fun r1=>some {a0 with b7:=r1}
theorem wC {a0:bJ} {r:bJ} (H:ou a0=some r):Fn Tryz.prog 204 [.agg (er a0)] [.agg (qM [.o] (kc r))]:=by
 refine fI Tryz.func204 Tryz.ntmps204 ?_
 obtain⟨r1,q1,H⟩:=ob H
 refine nA (ca (hF:=HJ q1)) ?_
 cases H
 exact ah
def Bm (a0:Int) (a1:Int):Option Int:=
 Un (cz a1 1 1000000000000) fun r1=>bif !r1 then(some 0) else(bif !eqB a1 0 then(bif !eqB a1 0 then(some (Int.tmod (WR ((Int.tmod a0 a1)+a1)) a1)) else none) else none)
theorem uS {a0:Int} {a1:Int} {r:Int} (H:Bm a0 a1=some r):Fn Tryz.prog 292 [aI a0,aI a1] [.c (.d (.i .i64 r))]:=by
 refine fI Tryz.func292 Tryz.ntmps292 ?_
 obtain⟨r1,q1,H⟩:=ob H
 refine nA (ca (hF:=bK q1)) ?_
 refine cC H ?_ ?_<;>intro H
 ·cases H
  exact ah
 ·obtain⟨h,H⟩:=rq H
  refine nA (ir rfl rfl rfl (ne0 h)) ?_
  obtain⟨h,H⟩:=rq H
  refine nA (ir rfl rfl rfl (ne0 h)) ?_
  cases H
  exact ah
def g7 (a0:bG):Option Bool:=
 Un (cz a0.c9 0 1) fun r1=>Un (bif r1 then(Un (cz a0.fx 1 100000) fun r3=>bif r3 then(bif leB ((a0.aN.length:Nat):Int) 60 then(Un (cz a0.im 0 2147483646) fun r4=>some r4) else(some false)) else(some false)) else(some false)) fun(v2:Bool)=>some v2
theorem oQ {a0:bG} {r:Bool} (H:g7 a0=some r):Fn Tryz.prog 85 [.agg (fG a0)] [.c (.d (.b r))]:=by
 refine fI Tryz.func85 Tryz.ntmps85 ?_
 obtain⟨r1,q1,H⟩:=ob H
 refine nA (ca (hF:=bK q1)) ?_
 obtain⟨v2,Hj,H⟩:=ob H
 refine jR ⟨[(2,tB v2)],[],0⟩ ?_ ?_
 ·have H:=Hj
  refine gC H ?_ ?_<;>intro H
  ·obtain⟨r3,q3,H⟩:=ob H
   refine nG (ca (hF:=bK q3)) ?_
   refine gC H ?_ ?_<;>intro H
   ·refine gC H ?_ ?_<;>intro H
    ·obtain⟨r4,q4,H⟩:=ob H
     refine nG (ca (hF:=bK q4)) ?_
     cases H
     exact wo
    ·cases H
     exact wo
   ·cases H
    exact wo
  ·cases H
   exact wo
 cases H
 exact ah
def iR (a0:bN):Option Bool:=
 Un (cz a0.fH 1 6) fun r1=>Un (bif r1 then(bif leB 0 a0.fH then(Un (cz a0.fj 0 (WR ((jZ .i64 1 a0.fH)-1))) fun r3=>some r3) else none) else(some false)) fun(v2:Bool)=>some v2
theorem nZ {a0:bN} {r:Bool} (H:iR a0=some r):Fn Tryz.prog 57 [.agg (mQ a0)] [.c (.d (.b r))]:=by
 refine fI Tryz.func57 Tryz.ntmps57 ?_
 refine dI ?_
 obtain⟨r1,q1,H⟩:=ob H
 refine dA (ca (hF:=bK q1)) ?_
 obtain⟨v2,Hj,H⟩:=ob H
 refine fR ⟨[(2,tB v2)],[],0⟩ ?_ ?_
 ·have H:=Hj
  refine wI ?_
  refine dC H ?_ ?_<;>intro H
  ·obtain⟨h,H⟩:=rq H
   refine dG (G1 h rfl rfl rfl rfl) ?_
   obtain⟨r3,q3,H⟩:=ob H
   refine dG (ca (hF:=bK q3)) ?_
   refine wI ?_
   cases H
   exact wo
  ·refine wI ?_
   cases H
   exact wo
 refine wI ?_
 cases H
 exact ah
def fA (a0:aM):Int→Option (cB (Int) (Bool))
 |v9=>bif ltB v9 ((a0.aG.length:Nat):Int) then(Un (ix a0.aG v9) fun x10=>bif ltB 60 ((x10.aN.length:Nat):Int) then(dn (some false)) else(some (.next (WR (v9+1))))) else(dn (Un (bif eqB a0.bj (WR (((a0.aG.length:Nat):Int)+1)) then(bif leB ((a0.aG.length:Nat):Int) 24 then(some (leB ((a0.aD.length:Nat):Int) 8)) else(some false)) else(some false)) fun(v11:Bool)=>some v11))
def gu (a0:aM):Int→Option (cB (Int) (Bool))
 |v1=>bif ltB v1 ((a0.aD.length:Nat):Int) then(Un (ix a0.aD v1) fun x2=>Un (cz x2.cO (WR (a0.bj+1)) (WR ((WR (a0.bj+8))-1))) fun r3=>Un (bif !r3 then(some true) else(bif ltB 0 v1 then(Un (ix a0.aD (WR (v1-1))) fun x5=>Un (ix a0.aD v1) fun x6=>bif leB x6.cO x5.cO then(some true) else(Un (ix a0.aD v1) fun x7=>some (ltB 60 ((x7.aN.length:Nat):Int)))) else(Un (ix a0.aD v1) fun x8=>some (ltB 60 ((x8.aN.length:Nat):Int))))) fun(v4:Bool)=>bif v4 then(dn (some false)) else(some (.next (WR (v1+1))))) else(dn (iter (fA a0) FU 0))
def gH (a0:aM):Option Bool:=
 iter (gu a0) FU 0
theorem n0 {a0:aM} {r:Bool} (H:gH a0=some r):Fn Tryz.prog 245 [.agg (mx a0)] [.c (.d (.b r))]:=by
 refine fI Tryz.func245 Tryz.ntmps245 ?_
 refine iT H (fun q=>⟨[(1,tP 0),(3,tI q)],[(0,.var 39 (kM [.f,.f] (cf a0)))],1⟩) ?_
 rintro v1 o H
 try dsimp only
 refine wI ?_
 refine cC H ?_ ?_<;>intro H
 ·refine dI ?_
  obtain⟨x2,hx2,H⟩:=ob H
  refine dA (xdT (enc:=aE) hx2) ?_
  obtain⟨r3,q3,H⟩:=ob H
  refine dA (ca (hF:=bK q3)) ?_
  obtain⟨v4,Hj,H⟩:=ob H
  refine fR ⟨[(1,tP 0),(3,tI v1),(56,tB v4)],[(0,.var 39 (kM [.f,.f] (cf a0)))],1⟩ ?_ ?_
  ·have H:=Hj
   refine wI ?_
   refine dC H ?_ ?_<;>intro H
   ·refine wI ?_
    cases H
    exact wo
   ·refine dC H ?_ ?_<;>intro H
    ·obtain⟨x5,hx5,H⟩:=ob H
     refine dG (xdT (enc:=aE) hx5) ?_
     obtain⟨x6,hx6,H⟩:=ob H
     refine dG (xdT (enc:=aE) hx6) ?_
     refine dC H ?_ ?_<;>intro H
     ·refine wI ?_
      cases H
      exact wo
     ·obtain⟨x7,hx7,H⟩:=ob H
      refine dG (xdT (enc:=aE) hx7) ?_
      refine wI ?_
      cases H
      exact wo
    ·obtain⟨x8,hx8,H⟩:=ob H
     refine dG (xdT (enc:=aE) hx8) ?_
     refine wI ?_
     cases H
     exact wo
  refine wI ?_
  refine cC H ?_ ?_<;>intro H
  ·refine wI ?_
   obtain⟨r0,Hd,rfl⟩:=dnE H
   refine lT (fun hq=>?_)
   have H:=Hd.trans (congrArg some hq)
   refine wI ?_
   cases H
   exact ah
  ·refine wI ?_
   cases H
   refine ee ?_
   exact wo
 ·obtain⟨r0,Hd,rfl⟩:=dnE H
  refine ed (fun hq=>?_)
  have H:=Hd.trans (congrArg some hq)
  refine wI ?_
  refine iT H (fun q=>⟨[(1,tP 0),(4,tI q)],[(0,.var 39 (kM [.f,.f] (cf a0)))],1⟩) ?_
  rintro v9 o H
  try dsimp only
  refine wI ?_
  refine cC H ?_ ?_<;>intro H
  ·obtain⟨x10,hx10,H⟩:=ob H
   refine nA (xdT (enc:=cj) hx10) ?_
   refine cC H ?_ ?_<;>intro H
   ·obtain⟨r0,Hd,rfl⟩:=dnE H
    refine lT (fun hq=>?_)
    have H:=Hd.trans (congrArg some hq)
    refine wI ?_
    cases H
    exact ah
   ·cases H
    refine ee ?_
    exact wo
  ·obtain⟨r0,Hd,rfl⟩:=dnE H
   refine ed (fun hq=>?_)
   have H:=Hd.trans (congrArg some hq)
   refine wI ?_
   obtain⟨v11,Hj,H⟩:=ob H
   refine jR ⟨[(2,tB v11)],[],0⟩ ?_ ?_
   ·have H:=Hj
    refine gC H ?_ ?_<;>intro H
    ·refine gC H ?_ ?_<;>intro H
     ·cases H
      exact wo
     ·cases H
      exact wo
    ·cases H
     exact wo
   cases H
   exact ah
def fE (a0:cY):Option Bool:=
 Un (bif leB 0 a0.au then(Un (cz a0.cE 0 100000) fun r2=>bif r2 then(Un (cz a0.dX 0 a0.cE) fun r3=>some r3) else(some false)) else(some false)) fun(v1:Bool)=>some v1
theorem gZ {a0:cY} {r:Bool} (H:fE a0=some r):Fn Tryz.prog 141 [.agg (tu a0)] [.c (.d (.b r))]:=by
 refine fI Tryz.func141 Tryz.ntmps141 ?_
 obtain⟨v1,Hj,H⟩:=ob H
 refine jR ⟨[(2,tB v1)],[],0⟩ ?_ ?_
 ·have H:=Hj
  refine gC H ?_ ?_<;>intro H
  ·obtain⟨r2,q2,H⟩:=ob H
   refine nG (ca (hF:=bK q2)) ?_
   refine gC H ?_ ?_<;>intro H
   ·obtain⟨r3,q3,H⟩:=ob H
    refine nG (ca (hF:=bK q3)) ?_
    cases H
    exact wo
   ·cases H
    exact wo
  ·cases H
   exact wo
 cases H
 exact ah
def kx (a0:cP):Option Bool:=
 Un (cz a0.fT 0 2) fun r1=>Un (bif r1 then(Un (cz a0.eK 0 4) fun r3=>bif r3 then(Un (cz a0.fU 0 3) fun r4=>some r4) else(some false)) else(some false)) fun(v2:Bool)=>some v2
theorem xn {a0:cP} {r:Bool} (H:kx a0=some r):Fn Tryz.prog 247 [.agg (ui a0)] [.c (.d (.b r))]:=by
 refine fI Tryz.func247 Tryz.ntmps247 ?_
 obtain⟨r1,q1,H⟩:=ob H
 refine nA (ca (hF:=bK q1)) ?_
 obtain⟨v2,Hj,H⟩:=ob H
 refine jR ⟨[(2,tB v2)],[],0⟩ ?_ ?_
 ·have H:=Hj
  refine gC H ?_ ?_<;>intro H
  ·obtain⟨r3,q3,H⟩:=ob H
   refine nG (ca (hF:=bK q3)) ?_
   refine gC H ?_ ?_<;>intro H
   ·obtain⟨r4,q4,H⟩:=ob H
    refine nG (ca (hF:=bK q4)) ?_
    cases H
    exact wo
   ·cases H
    exact wo
  ·cases H
   exact wo
 cases H
 exact ah
end Go.AM
