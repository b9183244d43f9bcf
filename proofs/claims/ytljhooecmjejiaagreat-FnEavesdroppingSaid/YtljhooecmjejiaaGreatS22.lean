/- A part. -/
import Derived.Test.YtljhooecmjejiaaGreatS21
set_option linter.unusedVariables false
open Option renaming bind→Vj
namespace Go.AM
open Go.Proofs
attribute [local irreducible] AWN NS AWO AWR AWC DR cZ ey
set_option maxRecDepth 100000
set_option maxHeartbeats 40000000
def ux (a0:aE) (a1:ab):Option (df×aE):=
 Vj (bS a0 ((a1.am.length:Nat):Int)) fun r1=>Vj (ix a1.am r1.1) fun x2=>Vj (bS r1.2 ((a1.dZ.aZ.length:Nat):Int)) fun r3=>Vj (fZ r3.2 2) fun r4=>Vj (bS r4.2 3) fun r5=>Vj (bif eqB r5.1 0 then(Vj (bS r5.2 9) fun r30=>Vj (oD x2.aK x2.aa x2.aO (⟨WR (1+r30.1),[9]⟩:ae)) fun r31=>some (r30.2,(⟨r1.1,false,true,r3.1,dO,{r31 with aT:={r31.aT with gV:=Int.tmod (WR (r31.aT.gV+1)) 2147483647}}⟩:bD))) else(Vj (bif eqB r5.1 1 then(Vj (zP r5.2 x2) fun r49=>some (false,r49.2,r49.1)) else(Vj (ix a1.ai r1.1) fun x50=>Vj (rH r5.2 x50) fun r51=>some (true,r51.2,r51.1))) fun((v35,v47,v48):Bool×aE×aA)=>some (v47,(⟨r1.1,v35,false,r3.1,v48,ee⟩:bD)))) fun((v28,v29):aE×bD)=>Vj (o9 a1 {dy with aR:=13,bk:=v29}) fun r52=>Vj (bif !r52 then(some 7) else(some v29.aY.aR)) fun(v53:Int)=>some ({dy with aR:=13,bk:={v29 with aY:={v29.aY with aR:=v53}}},v28)
theorem Hu {a0:aE} {a1:ab} {r:df×aE} (H:ux a0 a1=some r):FnV Tryz.prog 227 [(200,.var 143 (kM [.f] (bg a0)))] [tP 200,.v (.agg (kM [.f,.f,.f,.f,.f] (aH a1)))] [(200,.var 143 (kM [.f] (bg r.2)))] (.v (.agg (kM [.z,.n 210] (eN {r.1 with aQ:=[]})))) [(210,n5 r.1.bk.bC.aT.aQ)]:=by
 refine fV Tryz.func227 Tryz.ntmps227 ?_
 obtain⟨r1,q1,H⟩:=ob H
 refine sA (cw (o:=200) (bz q1)) ?_
 obtain⟨x2,hx2,H⟩:=ob H
 refine nA (xdT (enc:=dE) hx2) ?_
 obtain⟨r3,q3,H⟩:=ob H
 refine sA (cw (o:=200) (bz q3)) ?_
 obtain⟨r4,q4,H⟩:=ob H
 refine sA (cw (o:=200) (fK q4)) ?_
 obtain⟨r5,q5,H⟩:=ob H
 refine sA (cw (o:=200) (bz q5)) ?_
 obtain⟨⟨v28,v29⟩,Hj,H⟩:=ob H
 refine jA ⟨[(3,tP 210),(4,tP 211),(7,tP 213)],(oM [.n 215] 213 78 (gD v29)++[(200,.var 143 (kM [.f] (bg v28))),(210,.var 34 (kM [.f,.f,.f,.f,.f] (aH a1))),(211,.var 80 (kM [.z,.z] (eN dy)))]),216⟩ ?_ ?_
 ·have H:=Hj
  refine cC H ?_ ?_<;>intro H
  ·refine zI (List.range 14) ?_
   obtain⟨r30,q30,H⟩:=ob H
   refine wA (cwx (o:=200) (bz q30)) ?_
   obtain⟨r31,q31,H⟩:=ob H
   refine zA (ca (hF:=xh q31)) ?_
   refine wA (spx 100330) ?_
   refine nA (ir rfl rfl rfl (by decide)) ?_
   cases H
   refine an (c8 215) ?_
   refine an (wB 214 [9].length) ?_
   exact wo
  ·obtain⟨⟨v35,v47,v48⟩,Hj,H⟩:=ob H
   refine jA ⟨[(3,tP 210),(4,tP 211),(7,tP 213)],[(200,.var 143 (kM [.f] (bg v47))),(210,.var 34 (kM [.f,.f,.f,.f,.f] (aH a1))),(211,.var 80 (kM [.z,.z] (eN dy))),(213,.var 78 (kM [.z] (gD (⟨r1.1,v35,false,r3.1,v48,ee⟩:bD))))],214⟩ ?_ ?_
   ·have H:=Hj
    refine cC H ?_ ?_<;>intro H
    ·obtain⟨r49,q49,H⟩:=ob H
     refine sA (cw (o:=200) (LY q49)) ?_
     cases H
     exact wo
    ·obtain⟨x50,hx50,H⟩:=ob H
     refine nA (xdT (enc:=bZ) hx50) ?_
     obtain⟨r51,q51,H⟩:=ob H
     refine sA (cw (o:=200) (Fc q51)) ?_
     cases H
     exact wo
   cases H
   refine an (c7 (o:=213) (j:=19) 5 1 true) ?_
   refine an (wB 214 (([]:List Int).length)) ?_
   refine an (uG (nx':=216) rfl) ?_
   refine an (wS 215 214) ?_
   exact wo
 obtain⟨r52,q52,H⟩:=ob H
 refine nA (ca (hF:=Co q52)) ?_
 obtain⟨v53,Hj,H⟩:=ob H
 refine jA ⟨[(4,tP 211),(8,tP 216)],(oM [.z,.n 215] 216 80 (eN {dy with aR:=13,bk:={v29 with aY:={v29.aY with aR:=v53}}})++[(200,.var 143 (kM [.f] (bg v28))),(211,.var 80 (kM [.z,.z] (eN dy)))]),217⟩ ?_ ?_
 ·have H:=Hj
  refine cC H ?_ ?_<;>intro H
  ·cases H
   exact wo
  ·cases H
   exact wo
 cases H
 refine bV (wS 215 210) ?_
 exact bU
def gR (a0:ag) (a1:aA):Option bK:=
 Vj (qH a0 a1) fun r1=>Vj (bif !r1 then(some true) else(bif ltB a1.aO a0.aO then(some true) else(bif eqB a1.aO a0.aO then(some (!eqB a1.aX a0.aX)) else(some false)))) fun(v2:Bool)=>bif v2 then(Vj (lg a0) fun r3=>some r3) else(Vj (gh a0) fun r4=>Vj (oL {r4 with aO:=a1.aO,aX:=a1.aX,ef:=0,il:=fa,d4:=0} 6) fun r5=>some r5)
theorem tF {a0:ag} {a1:aA} {r:bK} (H:gR a0 a1=some r):Fn Tryz.prog 358 [.agg (bZ a0),.agg (eb a1)] [.agg (qM [.d,.d,.d,.o] (ed r))]:=by
 refine fI Tryz.func358 Tryz.ntmps358 ?_
 obtain⟨r1,q1,H⟩:=ob H
 refine nA (ca (hF:=y5 q1)) ?_
 obtain⟨v2,Hj,H⟩:=ob H
 refine jR ⟨[(2,tP 0),(3,tP 1),(4,tP 2),(30,tB v2)],[(0,.var 60 (kM [.f,.f,.f] (cF a0))),(1,.var 72 (kM [] (cP a1))),(2,.var 236 (kM [.z,.z,.z,.z] (ed mT)))],3⟩ ?_ ?_
 ·have H:=Hj
  refine gC H ?_ ?_<;>intro H
  ·cases H
   exact wo
  ·refine gC H ?_ ?_<;>intro H
   ·cases H
    exact wo
   ·refine gC H ?_ ?_<;>intro H
    ·cases H
     exact wo
    ·cases H
     exact wo
 refine cC H ?_ ?_<;>intro H
 ·obtain⟨r3,q3,H⟩:=ob H
  refine nA (ca (hF:=lQ q3)) ?_
  cases H
  refine cG (aV (o:=3)) ?_
  refine cG (aV (o:=4)) ?_
  refine cG (aV (o:=5)) ?_
  refine cG (dx (o:=2)) ?_
  exact ah
 ·obtain⟨r4,q4,H⟩:=ob H
  refine nA (ca (hF:=fX q4)) ?_
  obtain⟨r5,q5,H⟩:=ob H
  refine bT (aV (o:=3)) ?_
  refine bT (aV (o:=4)) ?_
  refine bT (aV (o:=5)) ?_
  refine bT (cI (k:=45)) ?_
  refine sA (cwu [] [(210,7)] 8 (FnV.up (xv q5) rfl rfl)) ?_
  cases H
  exact ah
def jP (a0:ag) (a1:aA):Option bK:=
 Vj (qH a0 a1) fun r1=>Vj (bif !r1 then(some true) else(some (ltB a0.aq.bm a1.bN))) fun(v2:Bool)=>bif v2 then(Vj (lg a0) fun r3=>some r3) else(Vj (gh a0) fun r4=>Vj (iv a0.aq a1.bN) fun r5=>Vj (lP a0.aq.aw) fun r6=>Vj (lP r5.aw) fun r7=>Vj (lX a0.bW (WR (r6-r7))) fun r8=>some (⟨{r4 with ef:=0,aq:=r5,bW:=r8.1},([]:List aA)⟩:bK))
theorem xf {a0:ag} {a1:aA} {r:bK} (H:jP a0 a1=some r):Fn Tryz.prog 359 [.agg (bZ a0),.agg (eb a1)] [.agg (qM [.o,.o,.o,.o] (ed r))]:=by
 refine fI Tryz.func359 Tryz.ntmps359 ?_
 obtain⟨r1,q1,H⟩:=ob H
 refine nA (ca (hF:=y5 q1)) ?_
 obtain⟨v2,Hj,H⟩:=ob H
 refine jR ⟨[(2,tP 0),(3,tP 1),(4,tP 2),(19,tB v2)],[(0,.var 60 (kM [.f,.f,.f] (cF a0))),(1,.var 72 (kM [] (cP a1))),(2,.var 236 (kM [.z,.z,.z,.z] (ed mT)))],3⟩ ?_ ?_
 ·have H:=Hj
  refine gC H ?_ ?_<;>intro H
  ·cases H
   exact wo
  ·cases H
   exact wo
 refine cC H ?_ ?_<;>intro H
 ·obtain⟨r3,q3,H⟩:=ob H
  refine nA (ca (hF:=lQ q3)) ?_
  cases H
  exact ah
 ·obtain⟨r4,q4,H⟩:=ob H
  refine nA (ca (hF:=fX q4)) ?_
  obtain⟨r5,q5,H⟩:=ob H
  refine nA (ca (hF:=uR q5)) ?_
  refine zI (List.range 18) ?_
  obtain⟨r6,q6,H⟩:=ob H
  refine zA (ca (hF:=pA q6)) ?_
  obtain⟨r7,q7,H⟩:=ob H
  refine zA (ca (hF:=pA q7)) ?_
  obtain⟨r8,q8,H⟩:=ob H
  refine zA (ca (hF:=zl q8)) ?_
  refine wA (spx 100438) ?_
  cases H
  refine cG (wB 9 (([]:List aA).length)) ?_
  exact ah
def lZ (a0:az) (a1:ao):Option aU:=
 Vj (rz a0.aK a0.aa a0.aO a1) fun r1=>Vj (bif !eqB a0.bi 2 then(some true) else(some (!r1.2))) fun(v2:Bool)=>bif v2 then(Vj (oJ a0) fun r3=>some r3) else(Vj (ic a0) fun r4=>Vj (kW a0.bM r1.1) fun r5=>Vj (gN a0.aK (⟨8,a0.aX,a0.aa,a0.aO,r5.bm,cr,0⟩:aA)) fun r6=>some (⟨{r4 with bM:=r5},[r6]⟩:aU))
theorem zo {a0:az} {a1:ao} {r:aU} (H:lZ a0 a1=some r):Fn Tryz.prog 330 [.agg (dE a0),.agg (dq a1)] [.agg (qM [.d,.o,.o] (cA r))]:=by
 refine fI Tryz.func330 Tryz.ntmps330 ?_
 obtain⟨r1,q1,H⟩:=ob H
 refine nA (ca (hF:=ES q1)) ?_
 obtain⟨v2,Hj,H⟩:=ob H
 refine jR ⟨[(2,tP 0),(4,tP 2),(5,tP 3),(26,tB v2)],[(0,.var 45 (kM [.f,.f] (dr a0))),(2,.var 183 (kM [.z,.z,.z] (cA ev))),(3,.var 136 (kM [.t] (du r1.1)))],4⟩ ?_ ?_
 ·have H:=Hj
  refine gC H ?_ ?_<;>intro H
  ·cases H
   exact wo
  ·cases H
   exact wo
 refine cC H ?_ ?_<;>intro H
 ·obtain⟨r3,q3,H⟩:=ob H
  refine nA (ca (hF:=rF q3)) ?_
  cases H
  refine cG (aV (o:=4)) ?_
  refine cG (dx (o:=2)) ?_
  exact ah
 ·obtain⟨r4,q4,H⟩:=ob H
  refine nA (ca (hF:=gT q4)) ?_
  obtain⟨r5,q5,H⟩:=ob H
  refine nA (ca (hF:=yp q5)) ?_
  obtain⟨r6,q6,H⟩:=ob H
  refine nA (ca (hF:=jE q6)) ?_
  cases H
  refine cG (wB 9 [r6].length) ?_
  exact ah
def tN (a0:az):Option aU:=
 Vj (qG {a0 with aO:=WR (a0.aO+1),dm:=false}) fun r1=>Vj (jJ {a0 with aO:=WR (a0.aO+1),dm:=false} r1) fun r2=>some r2
theorem BC {a0:az} {r:aU} (H:tN a0=some r):FnV Tryz.prog 332 [] [.v (.agg (kM [.f,.f] (dr a0)))] [] (.v (.agg (kM [.f,.f,.w 210] (cA r)))) [(210,w72 r.dJ)]:=by
 refine fV Tryz.func332 Tryz.ntmps332 ?_
 refine zI (List.range 5) ?_
 obtain⟨r1,q1,H⟩:=ob H
 refine zA (ca (hF:=vV q1)) ?_
 obtain⟨r2,q2,H⟩:=ob H
 refine zB bO (f8 rfl (cwv [] [(210,212)] 213 (oK q2))) bO ?_
 refine wA (spx 100454) ?_
 cases H
 refine bV (wS 212 210) ?_
 exact bU
end Go.AM
