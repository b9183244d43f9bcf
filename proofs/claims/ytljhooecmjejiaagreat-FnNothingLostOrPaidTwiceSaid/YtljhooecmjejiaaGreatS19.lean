/- A part. -/
import Derived.Test.YtljhooecmjejiaaGreatS18
set_option linter.unusedVariables false
open Option renaming bind→Un
namespace Go.AM
open Go.Proofs
attribute [local irreducible] AWN NS AWO AWR AWC DR cZ eE
set_option maxRecDepth 100000
set_option maxHeartbeats 40000000
def yO (a0:aH) (a1:ay):Option (az×aH):=
 Un (bZ a0 8) fun r1=>Un (bif eqB (WR (1+r1.1)) 2 then(Un (iC a1.dq.ID (WR (a1.dq.dw+1))) fun r18=>Un (fP a1.dq.eP r18 (WR (a1.dq.dw+1))) fun r19=>Un (gb r1.2 3) fun r20=>Un (bif r20.1 then(Un (tQ r20.2) fun r31=>some (r31.2,(⟨WR (1+r1.1),a1.aU,WR (a1.dq.dw+1),a1.aR,0,r31.1,0⟩:az))) else(some (r20.2,(⟨WR (1+r1.1),a1.aU,WR (a1.dq.dw+1),a1.aR,0,r19,0⟩:az)))) fun((v29,v30):aH×az)=>some (v29,v30)) else(Un (bif eqB (WR (1+r1.1)) 4 then(Un (bZ r1.2 5) fun r37=>some (r37.1,r37.2)) else(some (a1.aR,r1.2))) fun((v35,v36):Int×aH)=>some (v36,(⟨WR (1+r1.1),a1.aU,a1.aa,v35,0,cg,0⟩:az)))) fun((v16,v17):aH×az)=>Un (gO a1.aJ v17) fun r38=>Un (bZ v16 8) fun r39=>Un (bif eqB r39.1 0 then(Un (tO r39.2) fun r56=>some (r56.2,{r38 with im:=r56.1})) else(Un (bif eqB r39.1 1 then(Un (bZ r39.2 7) fun r64=>some (r64.2,{r38 with aU:=WR (r64.1-1)})) else(Un (bif eqB r39.1 2 then(some (WR (r38.aa+1))) else(some r38.aa)) fun(v65:Int)=>some (r39.2,{r38 with aa:=v65}))) fun((v62,v63):aH×az)=>some (v62,v63))) fun((v54,v55):aH×az)=>some (v55,v54)
theorem KM {a0:aH} {a1:ay} {r:az×aH} (H:yO a0 a1=some r):FnW Tryz.prog 278 (.var 143 (kM [.f] (bI a0))) [tP 200,.v (.agg (kM [.f,.f] (df a1)))] (.var 143 (kM [.f] (bI r.2))) [.agg (qM [] (cI r.1))]:=by
 refine fW Tryz.func278 Tryz.ntmps278 ?_
 refine zI (List.range 12) ?_
 obtain⟨r1,q1,H⟩:=ob H
 refine wA (cwx (o:=200) (bL q1)) ?_
 refine wA (spx 100314) ?_
 obtain⟨⟨v16,v17⟩,Hj,H⟩:=ob H
 refine jA ⟨[(0,tP 200),(3,tP 210),(4,tP 211),(6,tP 212)],[(200,.var 143 (kM [.f] (bI v16))),(210,.var 45 (kM [.f,.f] (df a1))),(211,.var 72 (kM [] (cI dH))),(212,.var 72 (kM [] (cI v17)))],213⟩ ?_ ?_
 ·have H:=Hj
  refine cC H ?_ ?_<;>intro H
  ·refine zI (List.range 12) ?_
   obtain⟨r18,q18,H⟩:=ob H
   refine zA (ca (hF:=p9 q18)) ?_
   obtain⟨r19,q19,H⟩:=ob H
   refine zA (ca (hF:=iS q19)) ?_
   refine wA (spx 100313) ?_
   obtain⟨r20,q20,H⟩:=ob H
   refine sA (cw (o:=200) (f7 q20)) ?_
   obtain⟨⟨v29,v30⟩,Hj,H⟩:=ob H
   refine jA ⟨[(0,tP 200),(3,tP 210),(4,tP 211),(6,tP 212)],[(200,.var 143 (kM [.f] (bI v29))),(210,.var 45 (kM [.f,.f] (df a1))),(211,.var 72 (kM [] (cI dH))),(212,.var 72 (kM [] (cI v30)))],213⟩ ?_ ?_
   ·have H:=Hj
    refine cC H ?_ ?_<;>intro H
    ·obtain⟨r31,q31,H⟩:=ob H
     refine sA (cw (o:=200) (Gi q31)) ?_
     cases H
     exact wo
    ·cases H
     exact wo
   cases H
   exact wo
  ·obtain⟨⟨v35,v36⟩,Hj,H⟩:=ob H
   refine jA ⟨[(0,tP 200),(3,tP 210),(4,tP 211),(6,tP 212)],[(200,.var 143 (kM [.f] (bI v36))),(210,.var 45 (kM [.f,.f] (df a1))),(211,.var 72 (kM [] (cI dH))),(212,.var 72 (kM [] (cI (⟨WR (1+r1.1),a1.aU,a1.aa,v35,0,cg,0⟩:az))))],213⟩ ?_ ?_
   ·have H:=Hj
    refine cC H ?_ ?_<;>intro H
    ·obtain⟨r37,q37,H⟩:=ob H
     refine sA (cw (o:=200) (bL q37)) ?_
     cases H
     exact wo
    ·cases H
     exact wo
   cases H
   exact wo
 obtain⟨r38,q38,H⟩:=ob H
 refine nA (ca (hF:=jm q38)) ?_
 obtain⟨r39,q39,H⟩:=ob H
 refine sA (cw (o:=200) (bL q39)) ?_
 obtain⟨⟨v54,v55⟩,Hj,H⟩:=ob H
 refine jA ⟨[(4,tP 211),(6,tP 212)],[(200,.var 143 (kM [.f] (bI v54))),(211,.var 72 (kM [] (cI dH))),(212,.var 72 (kM [] (cI v55)))],213⟩ ?_ ?_
 ·have H:=Hj
  refine cC H ?_ ?_<;>intro H
  ·obtain⟨r56,q56,H⟩:=ob H
   refine sA (cw (o:=200) (xE q56)) ?_
   cases H
   exact wo
  ·obtain⟨⟨v62,v63⟩,Hj,H⟩:=ob H
   refine jA ⟨[(4,tP 211),(6,tP 212)],[(200,.var 143 (kM [.f] (bI v62))),(211,.var 72 (kM [] (cI dH))),(212,.var 72 (kM [] (cI v63)))],213⟩ ?_ ?_
   ·have H:=Hj
    refine cC H ?_ ?_<;>intro H
    ·obtain⟨r64,q64,H⟩:=ob H
     refine sA (cw (o:=200) (bL q64)) ?_
     cases H
     exact wo
    ·obtain⟨v65,Hj,H⟩:=ob H
     refine jA ⟨[(4,tP 211),(6,tP 212)],[(200,.var 143 (kM [.f] (bI r39.2))),(211,.var 72 (kM [] (cI dH))),(212,.var 72 (kM [] (cI {r38 with aa:=v65})))],213⟩ ?_ ?_
     ·have H:=Hj
      refine cC H ?_ ?_<;>intro H
      ·cases H
       exact wo
      ·cases H
       exact wo
     cases H
     exact wo
   cases H
   exact wo
 cases H
 exact eB
def qT (a0:aH) (a1:ag):Option (az×aH):=
 Un (bZ a0 8) fun r1=>Un (bZ r1.2 5) fun r2=>Un (bZ r2.2 3) fun r3=>Un (bZ r3.2 2) fun r4=>Un (bif eqB (WR (1+r1.1)) 3 then(some (r4.2,(⟨WR (1+r1.1),r2.1,a1.bC,WR ((WR (a1.aR+r3.1))-r4.1),a1.aD.ug,cg,0⟩:az))) else(Un (bif eqB (WR (1+r1.1)) 8 then(Un (bZ r4.2 4) fun r17=>Un (bZ r17.2 2) fun r18=>Un (Ah 0 (WR ((WR (a1.an.bj-r17.1))+r18.1))) fun r19=>some (r19,r18.2)) else(some (0,r4.2))) fun((v15,v16):Int×aH)=>some (v16,(⟨WR (1+r1.1),r2.1,a1.aa,WR ((WR (a1.aR+r3.1))-r4.1),v15,cg,0⟩:az)))) fun((v10,v11):aH×az)=>Un (gO a1.aJ v11) fun r20=>Un (bZ v10 8) fun r21=>Un (bif eqB r21.1 0 then(Un (tO r21.2) fun r38=>some (r38.2,{r20 with im:=r38.1})) else(Un (bif eqB r21.1 1 then(some {r20 with bM:=WR (r20.bM+1)}) else(Un (bif eqB r21.1 2 then(some (WR (r20.aa+1))) else(some r20.aa)) fun(v42:Int)=>some {r20 with aa:=v42})) fun(v41:az)=>some (r21.2,v41))) fun((v36,v37):aH×az)=>some (v37,v36)
theorem DU {a0:aH} {a1:ag} {r:az×aH} (H:qT a0 a1=some r):FnW Tryz.prog 279 (.var 143 (kM [.f] (bI a0))) [tP 200,.v (.agg (kM [.f,.f,.f] (cy a1)))] (.var 143 (kM [.f] (bI r.2))) [.agg (qM [] (cI r.1))]:=by
 refine fW Tryz.func279 Tryz.ntmps279 ?_
 refine zI (List.range 18) ?_
 obtain⟨r1,q1,H⟩:=ob H
 refine wA (cwx (o:=200) (bL q1)) ?_
 obtain⟨r2,q2,H⟩:=ob H
 refine wA (cwx (o:=200) (bL q2)) ?_
 obtain⟨r3,q3,H⟩:=ob H
 refine wA (cwx (o:=200) (bL q3)) ?_
 obtain⟨r4,q4,H⟩:=ob H
 refine wA (cwx (o:=200) (bL q4)) ?_
 refine wA (spx 100324) ?_
 obtain⟨⟨v10,v11⟩,Hj,H⟩:=ob H
 refine jA ⟨[(0,tP 200),(3,tP 210),(4,tP 211),(5,tP 212)],[(200,.var 143 (kM [.f] (bI v10))),(210,.var 60 (kM [.f,.f,.f] (cy a1))),(211,.var 72 (kM [] (cI dH))),(212,.var 72 (kM [] (cI v11)))],213⟩ ?_ ?_
 ·have H:=Hj
  refine cC H ?_ ?_<;>intro H
  ·cases H
   exact wo
  ·obtain⟨⟨v15,v16⟩,Hj,H⟩:=ob H
   refine jA ⟨[(0,tP 200),(3,tP 210),(4,tP 211),(5,tP 212)],[(200,.var 143 (kM [.f] (bI v16))),(210,.var 60 (kM [.f,.f,.f] (cy a1))),(211,.var 72 (kM [] (cI dH))),(212,.var 72 (kM [] (cI (⟨WR (1+r1.1),r2.1,a1.aa,WR ((WR (a1.aR+r3.1))-r4.1),v15,cg,0⟩:az))))],213⟩ ?_ ?_
   ·have H:=Hj
    refine cC H ?_ ?_<;>intro H
    ·refine zI (List.range 12) ?_
     obtain⟨r17,q17,H⟩:=ob H
     refine wA (cwx (o:=200) (bL q17)) ?_
     obtain⟨r18,q18,H⟩:=ob H
     refine wA (cwx (o:=200) (bL q18)) ?_
     obtain⟨r19,q19,H⟩:=ob H
     refine zA (ca (hF:=xo q19)) ?_
     refine wA (spx 100323) ?_
     cases H
     exact wo
    ·cases H
     exact wo
   cases H
   exact wo
 obtain⟨r20,q20,H⟩:=ob H
 refine nA (ca (hF:=jm q20)) ?_
 obtain⟨r21,q21,H⟩:=ob H
 refine sA (cw (o:=200) (bL q21)) ?_
 obtain⟨⟨v36,v37⟩,Hj,H⟩:=ob H
 refine jA ⟨[(4,tP 211),(5,tP 212)],[(200,.var 143 (kM [.f] (bI v36))),(211,.var 72 (kM [] (cI dH))),(212,.var 72 (kM [] (cI v37)))],213⟩ ?_ ?_
 ·have H:=Hj
  refine cC H ?_ ?_<;>intro H
  ·obtain⟨r38,q38,H⟩:=ob H
   refine sA (cw (o:=200) (xE q38)) ?_
   cases H
   exact wo
  ·obtain⟨v41,Hj,H⟩:=ob H
   refine jA ⟨[(4,tP 211),(5,tP 212)],[(200,.var 143 (kM [.f] (bI r21.2))),(211,.var 72 (kM [] (cI dH))),(212,.var 72 (kM [] (cI v41)))],213⟩ ?_ ?_
   ·have H:=Hj
    refine cC H ?_ ?_<;>intro H
    ·cases H
     exact wo
    ·obtain⟨v42,Hj,H⟩:=ob H
     refine jA ⟨[(4,tP 211),(5,tP 212)],[(200,.var 143 (kM [.f] (bI r21.2))),(211,.var 72 (kM [] (cI dH))),(212,.var 72 (kM [] (cI {r20 with aa:=v42})))],213⟩ ?_ ?_
     ·have H:=Hj
      refine cC H ?_ ?_<;>intro H
      ·cases H
       exact wo
      ·cases H
       exact wo
     cases H
     exact wo
   cases H
   exact wo
 cases H
 exact eB
def kW (a0:ag) (a1:az):Option Bool:=
 bif eqB a1.aP 3 then(Un (bif leB a1.aa a0.bv.cO then(bif !eqB a1.aa a0.bC then(some true) else(some (!eqB a1.bM a0.aD.ug))) else(some false)) fun(v1:Bool)=>some v1) else(Un (bif eqB a1.aP 5 then(some (eqB a1.aP 5)) else(some (eqB a1.aP 8))) fun(v2:Bool)=>bif v2 then(Un (bif ltB a1.aa a0.aa then(some true) else(bif eqB a1.aa a0.aa then(Un (fF a0.aJ a1) fun r4=>some (!r4)) else(some false))) fun(v3:Bool)=>some v3) else(some true))
theorem xD {a0:ag} {a1:az} {r:Bool} (H:kW a0 a1=some r):Fn Tryz.prog 320 [.agg (bS a0),.agg (d5 a1)] [.c (.d (.b r))]:=by
 refine fI Tryz.func320 Tryz.ntmps320 ?_
 refine cC H ?_ ?_<;>intro H
 ·obtain⟨v1,Hj,H⟩:=ob H
  refine jR ⟨[(4,tB v1)],[],0⟩ ?_ ?_
  ·have H:=Hj
   refine gC H ?_ ?_<;>intro H
   ·refine gC H ?_ ?_<;>intro H
    ·cases H
     exact wo
    ·cases H
     exact wo
   ·cases H
    exact wo
  cases H
  exact ah
 ·obtain⟨v2,Hj,H⟩:=ob H
  refine jA ⟨[(2,tP 0),(3,tP 1),(30,tB v2)],[(0,.var 60 (kM [.f,.f,.f] (cy a0))),(1,.var 72 (kM [] (cI a1)))],2⟩ ?_ ?_
  ·have H:=Hj
   refine cC H ?_ ?_<;>intro H
   ·cases H
    exact wo
   ·cases H
    exact wo
  refine cC H ?_ ?_<;>intro H
  ·obtain⟨v3,Hj,H⟩:=ob H
   refine jR ⟨[(4,tB v3)],[],0⟩ ?_ ?_
   ·have H:=Hj
    refine gC H ?_ ?_<;>intro H
    ·cases H
     exact wo
    ·refine gC H ?_ ?_<;>intro H
     ·obtain⟨r4,q4,H⟩:=ob H
      refine nG (ca (hF:=hP q4)) ?_
      cases H
      exact wo
     ·cases H
      exact wo
   cases H
   exact ah
  ·cases H
   exact ah
def iX (a0:ay) (a1:az):Option Bool:=
 bif eqB a1.aP 2 then(Un (jo a0.dq.eP a0.dq.dw a1.bQ) fun r1=>Un (bif eqB r1 1 then(some true) else(some (eqB r1 2))) fun(v2:Bool)=>some v2) else(Un (bif eqB a1.aP 4 then(some (eqB a1.aP 4)) else(some (eqB a1.aP 6))) fun(v3:Bool)=>bif v3 then(Un (bif ltB a1.aa a0.aa then(some true) else(bif eqB a1.aa a0.aa then(Un (fF a0.aJ a1) fun r5=>some (!r5)) else(some false))) fun(v4:Bool)=>some v4) else(some true))
theorem va {a0:ay} {a1:az} {r:Bool} (H:iX a0 a1=some r):Fn Tryz.prog 321 [.agg (c7 a0),.agg (d5 a1)] [.c (.d (.b r))]:=by
 refine fI Tryz.func321 Tryz.ntmps321 ?_
 refine cC H ?_ ?_<;>intro H
 ·obtain⟨r1,q1,H⟩:=ob H
  refine nA (ca (hF:=rE q1)) ?_
  obtain⟨v2,Hj,H⟩:=ob H
  refine jR ⟨[(4,tB v2)],[],0⟩ ?_ ?_
  ·have H:=Hj
   refine gC H ?_ ?_<;>intro H
   ·cases H
    exact wo
   ·cases H
    exact wo
  cases H
  exact ah
 ·obtain⟨v3,Hj,H⟩:=ob H
  refine jA ⟨[(2,tP 0),(3,tP 1),(25,tB v3)],[(0,.var 45 (kM [.f,.f] (df a0))),(1,.var 72 (kM [] (cI a1)))],2⟩ ?_ ?_
  ·have H:=Hj
   refine cC H ?_ ?_<;>intro H
   ·cases H
    exact wo
   ·cases H
    exact wo
  refine cC H ?_ ?_<;>intro H
  ·obtain⟨v4,Hj,H⟩:=ob H
   refine jR ⟨[(4,tB v4)],[],0⟩ ?_ ?_
   ·have H:=Hj
    refine gC H ?_ ?_<;>intro H
    ·cases H
     exact wo
    ·refine gC H ?_ ?_<;>intro H
     ·obtain⟨r5,q5,H⟩:=ob H
      refine nG (ca (hF:=hP q5)) ?_
      cases H
      exact wo
     ·cases H
      exact wo
   cases H
   exact ah
  ·cases H
   exact ah
def qj (a0:ay):Option az:=
 Un (gO a0.aJ (⟨5,a0.aU,a0.aa,a0.aR,0,cg,0⟩:az)) fun r1=>some r1
theorem u7 {a0:ay} {r:az} (H:qj a0=some r):Fn Tryz.prog 322 [.agg (c7 a0)] [.agg (qM [] (cI r))]:=by
 refine fI Tryz.func322 Tryz.ntmps322 ?_
 obtain⟨r1,q1,H⟩:=ob H
 refine nA (ca (hF:=jm q1)) ?_
 cases H
 exact ah
def s6 (a0:ag) (a1:ae):Option av:=
 Un (n9 a0.aJ a0.aa a0.aR a1) fun r1=>some r1
theorem AI {a0:ag} {a1:ae} {r:av} (H:s6 a0 a1=some r):Fn Tryz.prog 350 [.agg (bS a0),.agg (aE a1)] [.agg (qM [.o] (lG r))]:=by
 refine fI Tryz.func350 Tryz.ntmps350 ?_
 obtain⟨r1,q1,H⟩:=ob H
 refine nA (ca (hF:=we q1)) ?_
 cases H
 exact ah
end Go.AM
