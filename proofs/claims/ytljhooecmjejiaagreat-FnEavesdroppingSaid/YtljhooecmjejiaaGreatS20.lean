/- A part. -/
import Derived.Test.YtljhooecmjejiaaGreatS19
set_option linter.unusedVariables false
open Option renaming bind→Vj
namespace Go.AM
open Go.Proofs
attribute [local irreducible] AWN NS AWO AWR AWC DR cZ ey
set_option maxRecDepth 100000
set_option maxHeartbeats 40000000
def rH (a0:aE) (a1:ag):Option (aA×aE):=
 Vj (bS a0 8) fun r1=>Vj (bS r1.2 5) fun r2=>Vj (bS r2.2 3) fun r3=>Vj (bS r3.2 2) fun r4=>Vj (bif eqB (WR (1+r1.1)) 3 then(some (r4.2,(⟨WR (1+r1.1),r2.1,a1.bF,WR ((WR (a1.aO+r3.1))-r4.1),a1.aF.uW,cr,0⟩:aA))) else(Vj (bif eqB (WR (1+r1.1)) 8 then(Vj (bS r4.2 4) fun r17=>Vj (bS r17.2 2) fun r18=>Vj (Bf 0 (WR ((WR (a1.aq.bm-r17.1))+r18.1))) fun r19=>some (r19,r18.2)) else(some (0,r4.2))) fun((v15,v16):Int×aE)=>some (v16,(⟨WR (1+r1.1),r2.1,a1.aa,WR ((WR (a1.aO+r3.1))-r4.1),v15,cr,0⟩:aA)))) fun((v10,v11):aE×aA)=>Vj (gN a1.aK v11) fun r20=>Vj (bS v10 8) fun r21=>Vj (bif eqB r21.1 0 then(Vj (uz r21.2) fun r38=>some (r38.2,{r20 with gV:=r38.1})) else(Vj (bif eqB r21.1 1 then(some {r20 with bN:=WR (r20.bN+1)}) else(Vj (bif eqB r21.1 2 then(some (WR (r20.aa+1))) else(some r20.aa)) fun(v42:Int)=>some {r20 with aa:=v42})) fun(v41:aA)=>some (r21.2,v41))) fun((v36,v37):aE×aA)=>some (v37,v36)
theorem Fc {a0:aE} {a1:ag} {r:aA×aE} (H:rH a0 a1=some r):FnW Tryz.prog 279 (.var 143 (kM [.f] (bg a0))) [tP 200,.v (.agg (kM [.f,.f,.f] (cF a1)))] (.var 143 (kM [.f] (bg r.2))) [.agg (qM [] (cP r.1))]:=by
 refine fW Tryz.func279 Tryz.ntmps279 ?_
 refine zI (List.range 18) ?_
 obtain⟨r1,q1,H⟩:=ob H
 refine wA (cwx (o:=200) (bz q1)) ?_
 obtain⟨r2,q2,H⟩:=ob H
 refine wA (cwx (o:=200) (bz q2)) ?_
 obtain⟨r3,q3,H⟩:=ob H
 refine wA (cwx (o:=200) (bz q3)) ?_
 obtain⟨r4,q4,H⟩:=ob H
 refine wA (cwx (o:=200) (bz q4)) ?_
 refine wA (spx 100324) ?_
 obtain⟨⟨v10,v11⟩,Hj,H⟩:=ob H
 refine jA ⟨[(0,tP 200),(3,tP 210),(4,tP 211),(5,tP 212)],[(200,.var 143 (kM [.f] (bg v10))),(210,.var 60 (kM [.f,.f,.f] (cF a1))),(211,.var 72 (kM [] (cP dO))),(212,.var 72 (kM [] (cP v11)))],213⟩ ?_ ?_
 ·have H:=Hj
  refine cC H ?_ ?_<;>intro H
  ·cases H
   exact wo
  ·obtain⟨⟨v15,v16⟩,Hj,H⟩:=ob H
   refine jA ⟨[(0,tP 200),(3,tP 210),(4,tP 211),(5,tP 212)],[(200,.var 143 (kM [.f] (bg v16))),(210,.var 60 (kM [.f,.f,.f] (cF a1))),(211,.var 72 (kM [] (cP dO))),(212,.var 72 (kM [] (cP (⟨WR (1+r1.1),r2.1,a1.aa,WR ((WR (a1.aO+r3.1))-r4.1),v15,cr,0⟩:aA))))],213⟩ ?_ ?_
   ·have H:=Hj
    refine cC H ?_ ?_<;>intro H
    ·refine zI (List.range 12) ?_
     obtain⟨r17,q17,H⟩:=ob H
     refine wA (cwx (o:=200) (bz q17)) ?_
     obtain⟨r18,q18,H⟩:=ob H
     refine wA (cwx (o:=200) (bz q18)) ?_
     obtain⟨r19,q19,H⟩:=ob H
     refine zA (ca (hF:=ym q19)) ?_
     refine wA (spx 100323) ?_
     cases H
     exact wo
    ·cases H
     exact wo
   cases H
   exact wo
 obtain⟨r20,q20,H⟩:=ob H
 refine nA (ca (hF:=jE q20)) ?_
 obtain⟨r21,q21,H⟩:=ob H
 refine sA (cw (o:=200) (bz q21)) ?_
 obtain⟨⟨v36,v37⟩,Hj,H⟩:=ob H
 refine jA ⟨[(4,tP 211),(5,tP 212)],[(200,.var 143 (kM [.f] (bg v36))),(211,.var 72 (kM [] (cP dO))),(212,.var 72 (kM [] (cP v37)))],213⟩ ?_ ?_
 ·have H:=Hj
  refine cC H ?_ ?_<;>intro H
  ·obtain⟨r38,q38,H⟩:=ob H
   refine sA (cw (o:=200) (yA q38)) ?_
   cases H
   exact wo
  ·obtain⟨v41,Hj,H⟩:=ob H
   refine jA ⟨[(4,tP 211),(5,tP 212)],[(200,.var 143 (kM [.f] (bg r21.2))),(211,.var 72 (kM [] (cP dO))),(212,.var 72 (kM [] (cP v41)))],213⟩ ?_ ?_
   ·have H:=Hj
    refine cC H ?_ ?_<;>intro H
    ·cases H
     exact wo
    ·obtain⟨v42,Hj,H⟩:=ob H
     refine jA ⟨[(4,tP 211),(5,tP 212)],[(200,.var 143 (kM [.f] (bg r21.2))),(211,.var 72 (kM [] (cP dO))),(212,.var 72 (kM [] (cP {r20 with aa:=v42})))],213⟩ ?_ ?_
     ·have H:=Hj
      refine cC H ?_ ?_<;>intro H
      ·cases H
       exact wo
      ·cases H
       exact wo
     cases H
     exact wo
   cases H
   exact wo
 cases H
 exact eu
def lp (a0:ag) (a1:aA):Option Bool:=
 bif eqB a1.aR 3 then(Vj (bif leB a1.aa a0.bv.cT then(bif !eqB a1.aa a0.bF then(some true) else(some (!eqB a1.bN a0.aF.uW))) else(some false)) fun(v1:Bool)=>some v1) else(Vj (bif eqB a1.aR 5 then(some (eqB a1.aR 5)) else(some (eqB a1.aR 8))) fun(v2:Bool)=>bif v2 then(Vj (bif ltB a1.aa a0.aa then(some true) else(bif eqB a1.aa a0.aa then(Vj (fJ a0.aK a1) fun r4=>some (!r4)) else(some false))) fun(v3:Bool)=>some v3) else(some true))
theorem yz {a0:ag} {a1:aA} {r:Bool} (H:lp a0 a1=some r):Fn Tryz.prog 320 [.agg (bZ a0),.agg (eb a1)] [.c (.d (.b r))]:=by
 refine fI Tryz.func320 Tryz.ntmps320 ?_
 refine cC H ?_ ?_<;>intro H
 ·obtain⟨v1,Hj,H⟩:=ob H
  refine jR ⟨[(4,tB v1)],[],0⟩ ?_ ?_
  ·have H:=Hj
   refine gC H ?_ ?_<;>intro H
   ·refine gC H ?_ ?_<;>intro H
    ·cases H
     exact wo
    ·cases H
     exact wo
   ·cases H
    exact wo
  cases H
  exact ah
 ·obtain⟨v2,Hj,H⟩:=ob H
  refine jA ⟨[(2,tP 0),(3,tP 1),(30,tB v2)],[(0,.var 60 (kM [.f,.f,.f] (cF a0))),(1,.var 72 (kM [] (cP a1)))],2⟩ ?_ ?_
  ·have H:=Hj
   refine cC H ?_ ?_<;>intro H
   ·cases H
    exact wo
   ·cases H
    exact wo
  refine cC H ?_ ?_<;>intro H
  ·obtain⟨v3,Hj,H⟩:=ob H
   refine jR ⟨[(4,tB v3)],[],0⟩ ?_ ?_
   ·have H:=Hj
    refine gC H ?_ ?_<;>intro H
    ·cases H
     exact wo
    ·refine gC H ?_ ?_<;>intro H
     ·obtain⟨r4,q4,H⟩:=ob H
      refine nG (ca (hF:=hU q4)) ?_
      cases H
      exact wo
     ·cases H
      exact wo
   cases H
   exact ah
  ·cases H
   exact ah
def jg (a0:az) (a1:aA):Option Bool:=
 bif eqB a1.aR 2 then(Vj (jG a0.dw.eY a0.dw.dD a1.bR) fun r1=>Vj (bif eqB r1 1 then(some true) else(some (eqB r1 2))) fun(v2:Bool)=>some v2) else(Vj (bif eqB a1.aR 4 then(some (eqB a1.aR 4)) else(some (eqB a1.aR 6))) fun(v3:Bool)=>bif v3 then(Vj (bif ltB a1.aa a0.aa then(some true) else(bif eqB a1.aa a0.aa then(Vj (fJ a0.aK a1) fun r5=>some (!r5)) else(some false))) fun(v4:Bool)=>some v4) else(some true))
theorem vX {a0:az} {a1:aA} {r:Bool} (H:jg a0 a1=some r):Fn Tryz.prog 321 [.agg (dE a0),.agg (eb a1)] [.c (.d (.b r))]:=by
 refine fI Tryz.func321 Tryz.ntmps321 ?_
 refine cC H ?_ ?_<;>intro H
 ·obtain⟨r1,q1,H⟩:=ob H
  refine nA (ca (hF:=sq q1)) ?_
  obtain⟨v2,Hj,H⟩:=ob H
  refine jR ⟨[(4,tB v2)],[],0⟩ ?_ ?_
  ·have H:=Hj
   refine gC H ?_ ?_<;>intro H
   ·cases H
    exact wo
   ·cases H
    exact wo
  cases H
  exact ah
 ·obtain⟨v3,Hj,H⟩:=ob H
  refine jA ⟨[(2,tP 0),(3,tP 1),(25,tB v3)],[(0,.var 45 (kM [.f,.f] (dr a0))),(1,.var 72 (kM [] (cP a1)))],2⟩ ?_ ?_
  ·have H:=Hj
   refine cC H ?_ ?_<;>intro H
   ·cases H
    exact wo
   ·cases H
    exact wo
  refine cC H ?_ ?_<;>intro H
  ·obtain⟨v4,Hj,H⟩:=ob H
   refine jR ⟨[(4,tB v4)],[],0⟩ ?_ ?_
   ·have H:=Hj
    refine gC H ?_ ?_<;>intro H
    ·cases H
     exact wo
    ·refine gC H ?_ ?_<;>intro H
     ·obtain⟨r5,q5,H⟩:=ob H
      refine nG (ca (hF:=hU q5)) ?_
      cases H
      exact wo
     ·cases H
      exact wo
   cases H
   exact ah
  ·cases H
   exact ah
def qG (a0:az):Option aA:=
 Vj (gN a0.aK (⟨5,a0.aX,a0.aa,a0.aO,0,cr,0⟩:aA)) fun r1=>some r1
theorem vV {a0:az} {r:aA} (H:qG a0=some r):Fn Tryz.prog 322 [.agg (dE a0)] [.agg (qM [] (cP r))]:=by
 refine fI Tryz.func322 Tryz.ntmps322 ?_
 obtain⟨r1,q1,H⟩:=ob H
 refine nA (ca (hF:=jE q1)) ?_
 cases H
 exact ah
def tR (a0:ag) (a1:ae):Option ao:=
 Vj (oD a0.aK a0.aa a0.aO a1) fun r1=>some r1
theorem BG {a0:ag} {a1:ae} {r:ao} (H:tR a0 a1=some r):Fn Tryz.prog 350 [.agg (bZ a0),.agg (aG a1)] [.agg (qM [.o] (ig r))]:=by
 refine fI Tryz.func350 Tryz.ntmps350 ?_
 obtain⟨r1,q1,H⟩:=ob H
 refine nA (ca (hF:=xh q1)) ?_
 cases H
 exact ah
def oL (a0:ag) (a1:Int):Option bK:=
 Vj (gN a0.aK (⟨a1,a0.aX,a0.aa,a0.aO,0,cr,0⟩:aA)) fun r1=>some (⟨a0,[r1]⟩:bK)
theorem xv {a0:ag} {a1:Int} {r:bK} (H:oL a0 a1=some r):FnV Tryz.prog 372 [] [.v (.agg (kM [.f,.f,.f] (cF a0))),tI a1] [] (.v (.agg (kM [.f,.f,.f,.w 210] (ed r)))) [(210,w72 r.dJ)]:=by
 refine fV Tryz.func372 Tryz.ntmps372 ?_
 refine zI (List.range 8) ?_
 obtain⟨r1,q1,H⟩:=ob H
 refine zA (ca (hF:=jE q1)) ?_
 refine wA (spx 100420) ?_
 cases H
 refine bV (wS 213 210) ?_
 refine bV ((wB 210 [r1].length)) ?_
 exact bU
def qH (a0:ag) (a1:aA):Option Bool:=
 Vj (bif eqB a0.bi 1 then(bif eqB a1.aa a0.aa then(Vj (fJ a0.aK a1) fun r2=>some r2) else(some false)) else(some false)) fun(v1:Bool)=>some v1
theorem y5 {a0:ag} {a1:aA} {r:Bool} (H:qH a0 a1=some r):Fn Tryz.prog 373 [.agg (bZ a0),.agg (eb a1)] [.c (.d (.b r))]:=by
 refine fI Tryz.func373 Tryz.ntmps373 ?_
 obtain⟨v1,Hj,H⟩:=ob H
 refine jR ⟨[(4,tB v1)],[],0⟩ ?_ ?_
 ·have H:=Hj
  refine gC H ?_ ?_<;>intro H
  ·refine gC H ?_ ?_<;>intro H
   ·obtain⟨r2,q2,H⟩:=ob H
    refine nG (ca (hF:=hU q2)) ?_
    cases H
    exact wo
   ·cases H
    exact wo
  ·cases H
   exact wo
 cases H
 exact ah
def rz (a0:Int) (a1:Int) (a2:Int) (a3:ao):Option (ae×Bool):=
 Vj (bif !eqB a3.aa a1 then(some true) else(bif !eqB a3.aO a2 then(some true) else(Vj (je a0 a3) fun r2=>some (!r2)))) fun(v1:Bool)=>bif v1 then(some (eF,false)) else(Vj (nT a0 a2) fun r3=>Vj (vP r3 1 0 a3.aT) fun r4=>some ((⟨r4.2.1,r4.1⟩:ae),r4.2.2))
theorem ES {a0:Int} {a1:Int} {a2:Int} {a3:ao} {r:ae×Bool} (H:rz a0 a1 a2 a3=some r):Fn Tryz.prog 360 [aI a0,aI a1,aI a2,.agg (dq a3)] [.agg (qM [.d] (du r.1)),.c (.d (.b r.2))]:=by
 refine fI Tryz.func360 Tryz.ntmps360 ?_
 obtain⟨v1,Hj,H⟩:=ob H
 refine jR ⟨[(0,tI a0),(2,tI a2),(7,tP 0),(8,tP 1),(28,tB v1)],[(0,.var 76 (kM [.f] (ig a3))),(1,.var 136 (kM [.z] (du eF)))],2⟩ ?_ ?_
 ·have H:=Hj
  refine gC H ?_ ?_<;>intro H
  ·cases H
   exact wo
  ·refine gC H ?_ ?_<;>intro H
   ·cases H
    exact wo
   ·obtain⟨r2,q2,H⟩:=ob H
    refine nG (ca (hF:=oG q2)) ?_
    cases H
    exact wo
 refine cC H ?_ ?_<;>intro H
 ·cases H
  refine cG (Pc (o:=1)) ?_
  exact ah
 ·refine dI ?_
  obtain⟨r3,q3,H⟩:=ob H
  refine dA (ca (hF:=tE q3)) ?_
  obtain⟨r4,q4,H⟩:=ob H
  refine dA (ca (hF:=ET q4)) ?_
  refine wI ?_
  cases H
  refine cG (aV (o:=2)) ?_
  refine cG (dx (o:=1)) ?_
  exact ah
def uv (a0:az) (a1:aA):Option aU:=
 Vj (jp a0.dw a1.bR) fun r1=>Vj (ic a0) fun r2=>bif !eqB r1.2.Code 0 then(some (⟨r2,([]:List aA)⟩:aU)) else(some (⟨{r2 with dw:=r1.1,aa:=a1.aa,aK:=r1.2.vj},[(⟨3,a0.aX,a1.aa,0,r1.2.uW,cr,0⟩:aA)]⟩:aU))
theorem Hs {a0:az} {a1:aA} {r:aU} (H:uv a0 a1=some r):Fn Tryz.prog 362 [.agg (dE a0),.agg (eb a1)] [.agg (qM [.o,.o,.o] (cA r))]:=by
 refine fI Tryz.func362 Tryz.ntmps362 ?_
 obtain⟨r1,q1,H⟩:=ob H
 refine nA (ca (hF:=sB q1)) ?_
 obtain⟨r2,q2,H⟩:=ob H
 refine nA (ca (hF:=gT q2)) ?_
 refine cC H ?_ ?_<;>intro H
 ·cases H
  refine cG (wB 8 (([]:List aA).length)) ?_
  exact ah
 ·cases H
  refine cG (wB 8 ([(⟨3,a0.aX,a1.aa,0,r1.2.uW,cr,0⟩:aA)].length)) ?_
  exact ah
end Go.AM
