/- A part. -/
import Derived.Test.YtljhooecmjejiaaGreatS18
set_option linter.unusedVariables false
open Option renaming bind→Vj
open List renaming range→TU
namespace Go.AM
open Go.Proofs
attribute [local irreducible] AWN NS AWO AWR AWC DR cZ ey
set_option maxRecDepth 100000
set_option maxHeartbeats 40000000
def oD (a0:Int) (a1:Int) (a2:Int) (a3:ae):Option ao:=
 Vj (nT a0 a2) fun r1=>Vj (Bj r1 1 a3.cT a3.aQ) fun r2=>some (⟨a1,a2,r2⟩:ao)
theorem xh {a0:Int} {a1:Int} {a2:Int} {a3:ae} {r:ao} (H:oD a0 a1 a2 a3=some r):Fn Tryz.prog 277 [aI a0,aI a1,aI a2,.agg (aG a3)] [.agg (qM [.o] (ig r))]:=by
 refine fI Tryz.func277 Tryz.ntmps277 ?_
 refine zI (TU 12) ?_
 obtain⟨r1,q1,H⟩:=ob H
 refine zA (ca (hF:=tE q1)) ?_
 obtain⟨r2,q2,H⟩:=ob H
 refine zA (ca (hF:=IJ q2)) ?_
 refine wA (spx 100308) ?_
 cases H
 exact ah
def gN (a0:Int) (a1:aA):Option aA:=
 Vj (oE a0 a1) fun r1=>some {a1 with gV:=r1}
theorem jE {a0:Int} {a1:aA} {r:aA} (H:gN a0 a1=some r):Fn Tryz.prog 317 [aI a0,.agg (eb a1)] [.agg (qM [] (cP r))]:=by
 refine fI Tryz.func317 Tryz.ntmps317 ?_
 obtain⟨r1,q1,H⟩:=ob H
 refine nA (ca (hF:=xi q1)) ?_
 cases H
 exact ah
def zP (a0:aE) (a1:az):Option (aA×aE):=
 Vj (bS a0 8) fun r1=>Vj (bif eqB (WR (1+r1.1)) 2 then(Vj (iG a1.dw.ID (WR (a1.dw.dD+1))) fun r18=>Vj (fU a1.dw.eY r18 (WR (a1.dw.dD+1))) fun r19=>Vj (fZ r1.2 3) fun r20=>Vj (bif r20.1 then(Vj (uA r20.2) fun r31=>some (r31.2,(⟨WR (1+r1.1),a1.aX,WR (a1.dw.dD+1),a1.aO,0,r31.1,0⟩:aA))) else(some (r20.2,(⟨WR (1+r1.1),a1.aX,WR (a1.dw.dD+1),a1.aO,0,r19,0⟩:aA)))) fun((v29,v30):aE×aA)=>some (v29,v30)) else(Vj (bif eqB (WR (1+r1.1)) 4 then(Vj (bS r1.2 5) fun r37=>some (r37.1,r37.2)) else(some (a1.aO,r1.2))) fun((v35,v36):Int×aE)=>some (v36,(⟨WR (1+r1.1),a1.aX,a1.aa,v35,0,cr,0⟩:aA)))) fun((v16,v17):aE×aA)=>Vj (gN a1.aK v17) fun r38=>Vj (bS v16 8) fun r39=>Vj (bif eqB r39.1 0 then(Vj (uz r39.2) fun r56=>some (r56.2,{r38 with gV:=r56.1})) else(Vj (bif eqB r39.1 1 then(Vj (bS r39.2 7) fun r64=>some (r64.2,{r38 with aX:=WR (r64.1-1)})) else(Vj (bif eqB r39.1 2 then(some (WR (r38.aa+1))) else(some r38.aa)) fun(v65:Int)=>some (r39.2,{r38 with aa:=v65}))) fun((v62,v63):aE×aA)=>some (v62,v63))) fun((v54,v55):aE×aA)=>some (v55,v54)
theorem LY {a0:aE} {a1:az} {r:aA×aE} (H:zP a0 a1=some r):FnW Tryz.prog 278 (.var 143 (kM [.f] (bg a0))) [tP 200,.v (.agg (kM [.f,.f] (dr a1)))] (.var 143 (kM [.f] (bg r.2))) [.agg (qM [] (cP r.1))]:=by
 refine fW Tryz.func278 Tryz.ntmps278 ?_
 refine zI (TU 12) ?_
 obtain⟨r1,q1,H⟩:=ob H
 refine wA (cwx (o:=200) (bz q1)) ?_
 refine wA (spx 100314) ?_
 obtain⟨⟨v16,v17⟩,Hj,H⟩:=ob H
 refine jA ⟨[(0,tP 200),(3,tP 210),(4,tP 211),(6,tP 212)],[(200,.var 143 (kM [.f] (bg v16))),(210,.var 45 (kM [.f,.f] (dr a1))),(211,.var 72 (kM [] (cP dO))),(212,.var 72 (kM [] (cP v17)))],213⟩ ?_ ?_
 ·have H:=Hj
  refine cC H ?_ ?_<;>intro H
  ·refine zI (TU 12) ?_
   obtain⟨r18,q18,H⟩:=ob H
   refine zA (ca (hF:=qy q18)) ?_
   obtain⟨r19,q19,H⟩:=ob H
   refine zA (ca (hF:=jb q19)) ?_
   refine wA (spx 100313) ?_
   obtain⟨r20,q20,H⟩:=ob H
   refine sA (cw (o:=200) (fK q20)) ?_
   obtain⟨⟨v29,v30⟩,Hj,H⟩:=ob H
   refine jA ⟨[(0,tP 200),(3,tP 210),(4,tP 211),(6,tP 212)],[(200,.var 143 (kM [.f] (bg v29))),(210,.var 45 (kM [.f,.f] (dr a1))),(211,.var 72 (kM [] (cP dO))),(212,.var 72 (kM [] (cP v30)))],213⟩ ?_ ?_
   ·have H:=Hj
    refine cC H ?_ ?_<;>intro H
    ·obtain⟨r31,q31,H⟩:=ob H
     refine sA (cw (o:=200) (Hx q31)) ?_
     cases H
     exact wo
    ·cases H
     exact wo
   cases H
   exact wo
  ·obtain⟨⟨v35,v36⟩,Hj,H⟩:=ob H
   refine jA ⟨[(0,tP 200),(3,tP 210),(4,tP 211),(6,tP 212)],[(200,.var 143 (kM [.f] (bg v36))),(210,.var 45 (kM [.f,.f] (dr a1))),(211,.var 72 (kM [] (cP dO))),(212,.var 72 (kM [] (cP (⟨WR (1+r1.1),a1.aX,a1.aa,v35,0,cr,0⟩:aA))))],213⟩ ?_ ?_
   ·have H:=Hj
    refine cC H ?_ ?_<;>intro H
    ·obtain⟨r37,q37,H⟩:=ob H
     refine sA (cw (o:=200) (bz q37)) ?_
     cases H
     exact wo
    ·cases H
     exact wo
   cases H
   exact wo
 obtain⟨r38,q38,H⟩:=ob H
 refine nA (ca (hF:=jE q38)) ?_
 obtain⟨r39,q39,H⟩:=ob H
 refine sA (cw (o:=200) (bz q39)) ?_
 obtain⟨⟨v54,v55⟩,Hj,H⟩:=ob H
 refine jA ⟨[(4,tP 211),(6,tP 212)],[(200,.var 143 (kM [.f] (bg v54))),(211,.var 72 (kM [] (cP dO))),(212,.var 72 (kM [] (cP v55)))],213⟩ ?_ ?_
 ·have H:=Hj
  refine cC H ?_ ?_<;>intro H
  ·obtain⟨r56,q56,H⟩:=ob H
   refine sA (cw (o:=200) (yA q56)) ?_
   cases H
   exact wo
  ·obtain⟨⟨v62,v63⟩,Hj,H⟩:=ob H
   refine jA ⟨[(4,tP 211),(6,tP 212)],[(200,.var 143 (kM [.f] (bg v62))),(211,.var 72 (kM [] (cP dO))),(212,.var 72 (kM [] (cP v63)))],213⟩ ?_ ?_
   ·have H:=Hj
    refine cC H ?_ ?_<;>intro H
    ·obtain⟨r64,q64,H⟩:=ob H
     refine sA (cw (o:=200) (bz q64)) ?_
     cases H
     exact wo
    ·obtain⟨v65,Hj,H⟩:=ob H
     refine jA ⟨[(4,tP 211),(6,tP 212)],[(200,.var 143 (kM [.f] (bg r39.2))),(211,.var 72 (kM [] (cP dO))),(212,.var 72 (kM [] (cP {r38 with aa:=v65})))],213⟩ ?_ ?_
     ·have H:=Hj
      refine cC H ?_ ?_<;>intro H
      ·cases H
       exact wo
      ·cases H
       exact wo
     cases H
     exact wo
   cases H
   exact wo
 cases H
 exact eu
def je (a0:Int) (a1:ao):Option Bool:=
 Vj (g8 a1.aT) fun r1=>Vj (bif r1 then(bif eqB a1.aT.cf 1 then(Vj (nT a0 a1.aO) fun r3=>Vj (oF r3 a1.aT) fun r4=>some r4) else(some false)) else(some false)) fun(v2:Bool)=>some v2
theorem oG {a0:Int} {a1:ao} {r:Bool} (H:je a0 a1=some r):Fn Tryz.prog 38 [aI a0,.agg (dq a1)] [.c (.d (.b r))]:=by
 refine fI Tryz.func38 Tryz.ntmps38 ?_
 refine dI ?_
 obtain⟨r1,q1,H⟩:=ob H
 refine dA (ca (hF:=pa q1)) ?_
 obtain⟨v2,Hj,H⟩:=ob H
 refine fF ⟨[(4,tB v2)],[],0⟩ ?_ ?_
 ·have H:=Hj
  refine wI ?_
  refine dC H ?_ ?_<;>intro H
  ·refine dC H ?_ ?_<;>intro H
   ·obtain⟨r3,q3,H⟩:=ob H
    refine dG (ca (hF:=tE q3)) ?_
    obtain⟨r4,q4,H⟩:=ob H
    refine dG (ca (hF:=xk q4)) ?_
    refine wI ?_
    cases H
    exact wo
   ·refine wI ?_
    cases H
    exact wo
  ·refine wI ?_
   cases H
   exact wo
 refine wI ?_
 cases H
 exact ah
def fJ (a0:Int) (a1:aA):Option Bool:=
 Vj (oE a0 a1) fun r1=>some (eqB a1.gV r1)
theorem hU {a0:Int} {a1:aA} {r:Bool} (H:fJ a0 a1=some r):Fn Tryz.prog 346 [aI a0,.agg (eb a1)] [.c (.d (.b r))]:=by
 refine fI Tryz.func346 Tryz.ntmps346 ?_
 refine dI ?_
 obtain⟨r1,q1,H⟩:=ob H
 refine dA (ca (hF:=xi q1)) ?_
 refine wI ?_
 cases H
 exact ah
def kV (a0:ag) (a1:aA):Option bK:=
 Vj (iG a0.bv.ID (WR (a0.bv.cT+1))) fun r1=>Vj (mM a0.bv r1) fun r2=>bif(eqB r2.1.ID.dR a0.bv.ID.dR&&(eqB r2.1.ID.bN a0.bv.ID.bN&&(eqB r2.1.eY a0.bv.eY&&(eqB r2.1.cT a0.bv.cT&&true)))) then(Vj (lg a0) fun r3=>some r3) else(Vj (gh a0) fun r4=>some (⟨{r4 with bv:=r2.1,aF:=r2.2,bF:=r2.1.cT},[(⟨2,a1.aX,r2.1.cT,0,0,r2.2,0⟩:aA)]⟩:bK))
theorem yo {a0:ag} {a1:aA} {r:bK} (H:kV a0 a1=some r):Fn Tryz.prog 356 [.agg (bZ a0),.agg (eb a1)] [.agg (qM [.o,.o,.o,.o] (ed r))]:=by
 refine fI Tryz.func356 Tryz.ntmps356 ?_
 refine zI (TU 18) ?_
 obtain⟨r1,q1,H⟩:=ob H
 refine zA (ca (hF:=qy q1)) ?_
 obtain⟨r2,q2,H⟩:=ob H
 refine zA (ca (hF:=xe q2)) ?_
 refine wA (spx 100418) ?_
 refine wA (spx 100417) ?_
 refine cC H ?_ ?_<;>intro H
 ·obtain⟨r3,q3,H⟩:=ob H
  refine nA (ca (hF:=lQ q3)) ?_
  cases H
  exact ah
 ·obtain⟨r4,q4,H⟩:=ob H
  refine nA (ca (hF:=fX q4)) ?_
  cases H
  refine cG (wB 9 ([(⟨2,a1.aX,r2.1.cT,0,0,r2.2,0⟩:aA)].length)) ?_
  exact ah
def jp (a0:mV) (a1:cO):Option (mV×lS):=
 Vj (kR a0) fun r1=>bif !r1 then(some (a0,{gK with Code:=1})) else(Vj (jG a0.eY a0.dD a1) fun r2=>bif eqB r2 0 then(Vj (hP a0.eY a1.eQ a1.gx) fun r3=>Vj (ec a0.eY [3,a1.eQ]) fun r4=>Vj (fU a0.eY a1.eQ r3) fun r5=>some ({a0 with dD:=r3},{gK with uW:=r4,vj:=r5.eY})) else(Vj (bif eqB r2 2 then(some (eqB r2 2)) else(some (eqB r2 3))) fun(v6:Bool)=>bif v6 then(Vj (nE a0.eY a1.eQ a0.dD) fun r7=>some (a0,{gK with Code:=r2,Q3:=r7})) else(some (a0,{gK with Code:=r2}))))
theorem sB {a0:mV} {a1:cO} {r:mV×lS} (H:jp a0 a1=some r):Fn Tryz.prog 378 [.agg (H9 a0),.agg (qU a1)] [.agg (qM [] (Id r.1)),.agg (qM [] (sT r.2))]:=by
 refine fI Tryz.func378 Tryz.ntmps378 ?_
 obtain⟨r1,q1,H⟩:=ob H
 refine nA (ca (hF:=tz q1)) ?_
 refine cC H ?_ ?_<;>intro H
 ·cases H
  exact ah
 ·obtain⟨r2,q2,H⟩:=ob H
  refine nA (ca (hF:=sq q2)) ?_
  refine cC H ?_ ?_<;>intro H
  ·obtain⟨r3,q3,H⟩:=ob H
   refine nA (ca (hF:=pw q3)) ?_
   refine pV [0,1,2,3,4,5,6,7,8,9,10,11,12,13,14,15,16] (h:=?_)
   refine wkb ?_
   refine xS rfl (bsx (bs rfl rfl rfl rfl rfl rfl rfl rfl) rfl) ?_
   refine wkb ?_
   obtain⟨r4,q4,H⟩:=ob H
   refine iA rfl (ca (hF:=d7 q4)) ?_
   refine wkb ?_
   obtain⟨r5,q5,H⟩:=ob H
   refine iA rfl (ca (hF:=jb q5)) ?_
   refine wkb ?_
   refine xS rfl (spx 100460) ?_
   refine wkb ?_
   refine xS rfl (spx 100459) ?_
   refine wkb ?_
   refine wI ?_
   cases H
   exact ah
  ·obtain⟨v6,Hj,H⟩:=ob H
   refine jA ⟨[(2,tP 0),(3,tP 1),(4,tP 2),(5,tP 3),(6,tI r2),(48,tB v6)],[(0,.var 43 (kM [] (Id a0))),(1,.var 52 (kM [] (eM a1))),(2,.var 43 (kM [] (Id Pk))),(3,.var 285 (kM [] (sT gK)))],4⟩ ?_ ?_
   ·have H:=Hj
    refine cC H ?_ ?_<;>intro H
    ·cases H
     exact wo
    ·cases H
     exact wo
   refine cC H ?_ ?_<;>intro H
   ·refine zI (TU 12) ?_
    obtain⟨r7,q7,H⟩:=ob H
    refine zA (ca (hF:=Bl q7)) ?_
    refine wA (spx 100462) ?_
    refine wA (spx 100461) ?_
    cases H
    exact ah
   ·cases H
    exact ah
end Go.AM
