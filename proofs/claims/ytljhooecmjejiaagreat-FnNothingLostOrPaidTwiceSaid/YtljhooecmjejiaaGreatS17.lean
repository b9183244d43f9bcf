/- A part. -/
import Derived.Test.YtljhooecmjejiaaGreatS16
set_option linter.unusedVariables false
open Option renaming bind→Un
namespace Go.AM
open Go.Proofs
attribute [local irreducible] AWN NS AWO AWR AWC DR cZ eE
set_option maxRecDepth 100000
set_option maxHeartbeats 40000000
def nB (a0:Int) (a1:Int):Option Int:=
 Un (pK a1) fun r1=>Un (mb a0 r1) fun r2=>some r2
theorem sR {a0:Int} {a1:Int} {r:Int} (H:nB a0 a1=some r):Fn Tryz.prog 87 [aI a0,aI a1] [.c (.d (.i .i64 r))]:=by
 refine fI Tryz.func87 Tryz.ntmps87 ?_
 obtain⟨r1,q1,H⟩:=ob H
 refine nA (ca (hF:=yu q1)) ?_
 obtain⟨r2,q2,H⟩:=ob H
 refine nA (ca (hF:=uw q2)) ?_
 cases H
 exact ah
def tQ (a0:aH):Option (cH×aH):=
 Un (vb a0) fun r1=>Un (bZ r1.2 50) fun r2=>Un (D1 r2.2) fun r3=>Un (fP r1.1 r2.1 r3.1) fun r4=>Un (bZ r3.2 8) fun r5=>Un (bif eqB r5.1 0 then(Un (tO r5.2) fun r16=>some (r16.2,{r4 with im:=r16.1})) else(Un (bif eqB r5.1 1 then(Un (u6 r5.2 [WR (r4.gx+1),-1,1000000,WR (r4.gx+1000000)]) fun r24=>some (r24.2,{r4 with gx:=r24.1})) else(Un (bif eqB r5.1 2 then(some (WR (r4.eJ+1))) else(some r4.eJ)) fun(v25:Int)=>some (r5.2,{r4 with eJ:=v25}))) fun((v22,v23):aH×cH)=>some (v22,v23))) fun((v14,v15):aH×cH)=>some (v15,v14)
theorem Gi {a0:aH} {r:cH×aH} (H:tQ a0=some r):FnW Tryz.prog 316 (.var 143 (kM [.f] (bI a0))) [tP 200] (.var 143 (kM [.f] (bI r.2))) [.agg (qM [] (ez r.1))]:=by
 refine fW Tryz.func316 Tryz.ntmps316 ?_
 obtain⟨r1,q1,H⟩:=ob H
 refine sA (cw (o:=200) (Gh q1)) ?_
 obtain⟨r2,q2,H⟩:=ob H
 refine sA (cw (o:=200) (bL q2)) ?_
 obtain⟨r3,q3,H⟩:=ob H
 refine sA (cw (o:=200) (Nr q3)) ?_
 obtain⟨r4,q4,H⟩:=ob H
 refine nA (ca (hF:=iS q4)) ?_
 obtain⟨r5,q5,H⟩:=ob H
 refine sA (cw (o:=200) (bL q5)) ?_
 obtain⟨⟨v14,v15⟩,Hj,H⟩:=ob H
 refine jA ⟨[(2,tP 210),(5,tP 211)],[(200,.var 143 (kM [.f] (bI v14))),(210,.var 52 (kM [] (ez cg))),(211,.var 52 (kM [] (ez v15)))],212⟩ ?_ ?_
 ·have H:=Hj
  refine cC H ?_ ?_<;>intro H
  ·obtain⟨r16,q16,H⟩:=ob H
   refine sA (cw (o:=200) (xE q16)) ?_
   cases H
   exact wo
  ·obtain⟨⟨v22,v23⟩,Hj,H⟩:=ob H
   refine jA ⟨[(2,tP 210),(5,tP 211)],[(200,.var 143 (kM [.f] (bI v22))),(210,.var 52 (kM [] (ez cg))),(211,.var 52 (kM [] (ez v23)))],212⟩ ?_ ?_
   ·have H:=Hj
    refine cC H ?_ ?_<;>intro H
    ·obtain⟨r24,q24,H⟩:=ob H
     refine bR (aT (o:=212)) ?_
     refine bR (cA (k:=31)) ?_
     refine sA (cw (o:=200) (wu q24)) ?_
     cases H
     exact wo
    ·obtain⟨v25,Hj,H⟩:=ob H
     refine jA ⟨[(2,tP 210),(5,tP 211)],[(200,.var 143 (kM [.f] (bI r5.2))),(210,.var 52 (kM [] (ez cg))),(211,.var 52 (kM [] (ez {r4 with eJ:=v25})))],212⟩ ?_ ?_
     ·have H:=Hj
      refine cC H ?_ ?_<;>intro H
      ·cases H
       exact wo
      ·cases H
       exact wo
     cases H
     exact wo
   cases H
   exact wo
 cases H
 exact eB
def oc (a0:Int) (a1:az):Option Int:=
 Un (kL) fun r1=>Un (mb a0 r1) fun r2=>Un (d6 r2 [23,a1.aP,a1.aU,a1.aa,a1.aR,a1.bM]) fun r3=>some r3
theorem wg {a0:Int} {a1:az} {r:Int} (H:oc a0 a1=some r):Fn Tryz.prog 344 [aI a0,.agg (d5 a1)] [.c (.d (.i .i64 r))]:=by
 refine fI Tryz.func344 Tryz.ntmps344 ?_
 refine dI ?_
 obtain⟨r1,q1,H⟩:=ob H
 refine dA (ca (hF:=ud q1)) ?_
 obtain⟨r2,q2,H⟩:=ob H
 refine dA (ca (hF:=uw q2)) ?_
 obtain⟨r3,q3,H⟩:=ob H
 refine dA (ca (hF:=dV q3)) ?_
 refine wI ?_
 cases H
 exact ah
def fN (a0:ab):Int→Option (cB (Int) (Bool))
 |v6=>bif ltB v6 ((a0.aQ.length:Nat):Int) then(Un (ix a0.aQ v6) fun x7=>Un (cz x7.a9 0 (WR (((a0.ai.length:Nat):Int)-1))) fun r8=>Un (bif !r8 then(some true) else(Un (ix a0.aQ v6) fun x10=>Un (cz x10.aU 0 (WR (((a0.dW.aX.length:Nat):Int)-1))) fun r11=>some (!r11))) fun(v9:Bool)=>bif v9 then(dn (some false)) else(some (.next (WR (v6+1))))) else(dn (bif leB 0 ((a0.dW.aX.length:Nat):Int) then(Un (cz a0.dh 0 (WR ((jZ .i64 1 ((a0.dW.aX.length:Nat):Int))-1))) fun r12=>Un (bif r12 then(Un (cz a0.oD 0 100000) fun r14=>bif r14 then(some (leB 0 a0.jX)) else(some false)) else(some false)) fun(v13:Bool)=>some v13) else none))
def fM (a0:ab):Int→Option (cB (Int) (Bool))
 |v4=>bif ltB v4 ((a0.ai.length:Nat):Int) then(Un (qV a0 v4) fun r5=>bif !r5 then(dn (some false)) else(some (.next (WR (v4+1))))) else(dn (iter (fN a0) FU 0))
def jw (a0:ab):Option Bool:=
 Un (ma a0.dW) fun r1=>Un (bif !r1 then(some true) else(Un (iR a0.dR) fun r3=>bif !r3 then(some true) else(bif eqB a0.dR.fj 0 then(some true) else(bif ltB 4 ((a0.ai.length:Nat):Int) then(some true) else(bif !eqB ((a0.am.length:Nat):Int) ((a0.ai.length:Nat):Int) then(some true) else(bif !eqB ((a0.aY.length:Nat):Int) ((a0.ai.length:Nat):Int) then(some true) else(some (ltB 200 ((a0.aQ.length:Nat):Int))))))))) fun(v2:Bool)=>bif v2 then(some false) else(iter (fM a0) FU 0)
theorem wa {a0:ab} {r:Bool} (H:jw a0=some r):Fn Tryz.prog 72 [.agg (gD a0)] [.c (.d (.b r))]:=by
 refine fI Tryz.func72 Tryz.ntmps72 ?_
 obtain⟨r1,q1,H⟩:=ob H
 refine nA (ca (hF:=uv q1)) ?_
 obtain⟨v2,Hj,H⟩:=ob H
 refine jR ⟨[(1,tP 0),(50,tB v2)],[(0,.var 34 (kM [.f,.f,.f,.f,.f] (aO a0)))],1⟩ ?_ ?_
 ·have H:=Hj
  refine gC H ?_ ?_<;>intro H
  ·cases H
   exact wo
  ·obtain⟨r3,q3,H⟩:=ob H
   refine nG (ca (hF:=nZ q3)) ?_
   refine gC H ?_ ?_<;>intro H
   ·cases H
    exact wo
   ·refine gC H ?_ ?_<;>intro H
    ·cases H
     exact wo
    ·refine gC H ?_ ?_<;>intro H
     ·cases H
      exact wo
     ·refine gC H ?_ ?_<;>intro H
      ·cases H
       exact wo
      ·refine gC H ?_ ?_<;>intro H
       ·cases H
        exact wo
       ·cases H
        exact wo
 refine cC H ?_ ?_<;>intro H
 ·cases H
  exact ah
 ·refine iT H (fun q=>⟨[(1,tP 0),(3,tI q)],[(0,.var 34 (kM [.f,.f,.f,.f,.f] (aO a0)))],1⟩) ?_
  rintro v4 o H
  try dsimp only
  refine wI ?_
  refine cC H ?_ ?_<;>intro H
  ·obtain⟨r5,q5,H⟩:=ob H
   refine nA (ca (hF:=DX q5)) ?_
   refine cC H ?_ ?_<;>intro H
   ·obtain⟨r0,Hd,rfl⟩:=dnE H
    refine lT (fun hq=>?_)
    have H:=Hd.trans (congrArg some hq)
    refine wI ?_
    cases H
    exact ah
   ·cases H
    refine ee ?_
    exact wo
  ·obtain⟨r0,Hd,rfl⟩:=dnE H
   refine ed (fun hq=>?_)
   have H:=Hd.trans (congrArg some hq)
   refine wI ?_
   refine iT H (fun q=>⟨[(1,tP 0),(4,tI q)],[(0,.var 34 (kM [.f,.f,.f,.f,.f] (aO a0)))],1⟩) ?_
   rintro v6 o H
   try dsimp only
   refine wI ?_
   refine cC H ?_ ?_<;>intro H
   ·refine dI ?_
    obtain⟨x7,hx7,H⟩:=ob H
    refine dA (xdT (enc:=er) hx7) ?_
    obtain⟨r8,q8,H⟩:=ob H
    refine dA (ca (hF:=bK q8)) ?_
    obtain⟨v9,Hj,H⟩:=ob H
    refine fR ⟨[(1,tP 0),(4,tI v6),(95,tB v9)],[(0,.var 34 (kM [.f,.f,.f,.f,.f] (aO a0)))],1⟩ ?_ ?_
    ·have H:=Hj
     refine wI ?_
     refine dC H ?_ ?_<;>intro H
     ·refine wI ?_
      cases H
      exact wo
     ·obtain⟨x10,hx10,H⟩:=ob H
      refine dG (xdT (enc:=er) hx10) ?_
      obtain⟨r11,q11,H⟩:=ob H
      refine dG (ca (hF:=bK q11)) ?_
      refine wI ?_
      cases H
      exact wo
    refine wI ?_
    refine cC H ?_ ?_<;>intro H
    ·refine wI ?_
     obtain⟨r0,Hd,rfl⟩:=dnE H
     refine lT (fun hq=>?_)
     have H:=Hd.trans (congrArg some hq)
     refine wI ?_
     cases H
     exact ah
    ·refine wI ?_
     cases H
     refine ee ?_
     exact wo
   ·obtain⟨r0,Hd,rfl⟩:=dnE H
    refine ed (fun hq=>?_)
    have H:=Hd.trans (congrArg some hq)
    refine wI ?_
    refine dI ?_
    obtain⟨h,H⟩:=rq H
    refine dA (G1 h rfl rfl rfl rfl) ?_
    obtain⟨r12,q12,H⟩:=ob H
    refine dA (ca (hF:=bK q12)) ?_
    obtain⟨v13,Hj,H⟩:=ob H
    refine fR ⟨[(2,tB v13)],[],0⟩ ?_ ?_
    ·have H:=Hj
     refine wI ?_
     refine dC H ?_ ?_<;>intro H
     ·obtain⟨r14,q14,H⟩:=ob H
      refine dG (ca (hF:=bK q14)) ?_
      refine dC H ?_ ?_<;>intro H
      ·refine wI ?_
       cases H
       exact wo
      ·refine wI ?_
       cases H
       exact wo
     ·refine wI ?_
      cases H
      exact wo
    refine wI ?_
    cases H
    exact ah
def jo (a0:Int) (a1:Int) (a2:cH):Option Int:=
 Un (hO a0 a2.eJ a2.gx) fun r1=>Un (d6 a0 [2,a2.eJ,r1]) fun r2=>bif !eqB a2.im r2 then(some 1) else(bif leB r1 a1 then(some 2) else(bif ltB a1 (WR (r1-1000)) then(some 3) else(some 0)))
theorem rE {a0:Int} {a1:Int} {a2:cH} {r:Int} (H:jo a0 a1 a2=some r):Fn Tryz.prog 347 [aI a0,aI a1,.agg (qA a2)] [.c (.d (.i .i64 r))]:=by
 refine fI Tryz.func347 Tryz.ntmps347 ?_
 obtain⟨r1,q1,H⟩:=ob H
 refine nA (ca (hF:=o4 q1)) ?_
 refine dI ?_
 obtain⟨r2,q2,H⟩:=ob H
 refine dA (ca (hF:=dV q2)) ?_
 refine wI ?_
 refine cC H ?_ ?_<;>intro H
 ·cases H
  exact ah
 ·refine cC H ?_ ?_<;>intro H
  ·cases H
   exact ah
  ·refine cC H ?_ ?_<;>intro H
   ·cases H
    exact ah
   ·cases H
    exact ah
def mD (a0:aC) (a1:Int):Option (aC×cH):=
 Un (dO a0) fun r1=>Un (bif !r1 then(some true) else(some (eqB a0.cO 999999))) fun(v2:Bool)=>bif v2 then(some (a0,cg)) else(Un (fP a0.eP a1 (WR (a0.cO+1))) fun r3=>some ({a0 with cO:=WR (a0.cO+1)},r3))
theorem wb {a0:aC} {a1:Int} {r:aC×cH} (H:mD a0 a1=some r):Fn Tryz.prog 370 [.agg (cm a0),aI a1] [.agg (qM [] (jE r.1)),.agg (qM [] (ez r.2))]:=by
 refine fI Tryz.func370 Tryz.ntmps370 ?_
 obtain⟨r1,q1,H⟩:=ob H
 refine nA (ca (hF:=fO q1)) ?_
 obtain⟨v2,Hj,H⟩:=ob H
 refine jR ⟨[(1,tI a1),(2,tP 0),(4,tP 1),(5,tP 2),(14,tB v2)],[(0,.var 47 (kM [] (jE a0))),(1,.var 47 (kM [] (jE oC))),(2,.var 52 (kM [] (ez cg)))],3⟩ ?_ ?_
 ·have H:=Hj
  refine gC H ?_ ?_<;>intro H
  ·cases H
   exact wo
  ·cases H
   exact wo
 refine cC H ?_ ?_<;>intro H
 ·cases H
  exact ah
 ·refine zI (List.range 9) ?_
  obtain⟨r3,q3,H⟩:=ob H
  refine zA (ca (hF:=iS q3)) ?_
  refine wA (spx 100414) ?_
  refine wA (spx 100413) ?_
  cases H
  exact ah
def uW (a0:Int) (a1:Int) (a2:Int) (a3:bG):Option (List Int×Int×Bool):=
 Un (g7 a3) fun r1=>Un (bif !r1 then(some true) else(bif !eqB a3.c9 a1 then(some true) else(Un (og a0 a3) fun r3=>bif !r3 then(some true) else(some (leB a3.fx a2))))) fun(v2:Bool)=>bif v2 then(some (([]:List Int),a2,false)) else(Un (lx a0 (WR ((WR (2*a3.fx))+a3.c9))) fun r4=>Un (vY r4 a3.aN) fun r5=>some (r5,a3.fx,true))
theorem DG {a0:Int} {a1:Int} {a2:Int} {a3:bG} {r:List Int×Int×Bool} (H:uW a0 a1 a2 a3=some r):Fn Tryz.prog 376 [aI a0,aI a1,aI a2,.agg (fG a3)] [.c (.own 5 1 (r.1.map eU8) r.1.length),.c (.d (.i .i64 r.2.1)),.c (.d (.b r.2.2))]:=by
 refine fI Tryz.func376 Tryz.ntmps376 ?_
 obtain⟨r1,q1,H⟩:=ob H
 refine nA (ca (hF:=oQ q1)) ?_
 obtain⟨v2,Hj,H⟩:=ob H
 refine jR ⟨[(0,tI a0),(2,tI a2),(7,tP 0),(31,tB v2)],[(0,.var 74 (kM [.f] (pU a3)))],1⟩ ?_ ?_
 ·have H:=Hj
  refine gC H ?_ ?_<;>intro H
  ·cases H
   exact wo
  ·refine gC H ?_ ?_<;>intro H
   ·cases H
    exact wo
   ·obtain⟨r3,q3,H⟩:=ob H
    refine nG (ca (hF:=wi q3)) ?_
    refine gC H ?_ ?_<;>intro H
    ·cases H
     exact wo
    ·cases H
     exact wo
 refine cC H ?_ ?_<;>intro H
 ·cases H
  exact ah
 ·refine dI ?_
  obtain⟨r4,q4,H⟩:=ob H
  refine dA (ca (hF:=qI q4)) ?_
  obtain⟨r5,q5,H⟩:=ob H
  refine dA (ca (hF:=Ht q5)) ?_
  refine wI ?_
  cases H
  exact ah
end Go.AM
