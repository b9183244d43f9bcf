/- A part. -/
import Derived.Test.YtljhooecmjejiaaGreatS17
set_option linter.unusedVariables false
open Option renaming bind→Un
namespace Go.AM
open Go.Proofs
attribute [local irreducible] AWN NS AWO AWR AWC DR cZ eE
set_option maxRecDepth 100000
set_option maxHeartbeats 40000000
def n9 (a0:Int) (a1:Int) (a2:Int) (a3:ae):Option av:=
 Un (nB a0 a2) fun r1=>Un (Al r1 1 a3.cO a3.aN) fun r2=>some (⟨a1,a2,r2⟩:av)
theorem we {a0:Int} {a1:Int} {a2:Int} {a3:ae} {r:av} (H:n9 a0 a1 a2 a3=some r):Fn Tryz.prog 277 [aI a0,aI a1,aI a2,.agg (aE a3)] [.agg (qM [.o] (lG r))]:=by
 refine fI Tryz.func277 Tryz.ntmps277 ?_
 refine zI (List.range 12) ?_
 obtain⟨r1,q1,H⟩:=ob H
 refine zA (ca (hF:=sR q1)) ?_
 obtain⟨r2,q2,H⟩:=ob H
 refine zA (ca (hF:=Hw q2)) ?_
 refine wA (spx 100308) ?_
 cases H
 exact ah
def gO (a0:Int) (a1:az):Option az:=
 Un (oc a0 a1) fun r1=>some {a1 with im:=r1}
theorem jm {a0:Int} {a1:az} {r:az} (H:gO a0 a1=some r):Fn Tryz.prog 317 [aI a0,.agg (d5 a1)] [.agg (qM [] (cI r))]:=by
 refine fI Tryz.func317 Tryz.ntmps317 ?_
 obtain⟨r1,q1,H⟩:=ob H
 refine nA (ca (hF:=wg q1)) ?_
 cases H
 exact ah
def kP (a0:Int) (a1:av):Option Bool:=
 Un (g7 a1.aZ) fun r1=>Un (bif r1 then(bif eqB a1.aZ.c9 1 then(Un (nB a0 a1.aR) fun r3=>Un (og r3 a1.aZ) fun r4=>some r4) else(some false)) else(some false)) fun(v2:Bool)=>some v2
theorem sV {a0:Int} {a1:av} {r:Bool} (H:kP a0 a1=some r):Fn Tryz.prog 38 [aI a0,.agg (dN a1)] [.c (.d (.b r))]:=by
 refine fI Tryz.func38 Tryz.ntmps38 ?_
 refine dI ?_
 obtain⟨r1,q1,H⟩:=ob H
 refine dA (ca (hF:=oQ q1)) ?_
 obtain⟨v2,Hj,H⟩:=ob H
 refine fR ⟨[(4,tB v2)],[],0⟩ ?_ ?_
 ·have H:=Hj
  refine wI ?_
  refine dC H ?_ ?_<;>intro H
  ·refine dC H ?_ ?_<;>intro H
   ·obtain⟨r3,q3,H⟩:=ob H
    refine dG (ca (hF:=sR q3)) ?_
    obtain⟨r4,q4,H⟩:=ob H
    refine dG (ca (hF:=wi q4)) ?_
    refine wI ?_
    cases H
    exact wo
   ·refine wI ?_
    cases H
    exact wo
  ·refine wI ?_
   cases H
   exact wo
 refine wI ?_
 cases H
 exact ah
def fF (a0:Int) (a1:az):Option Bool:=
 Un (oc a0 a1) fun r1=>some (eqB a1.im r1)
theorem hP {a0:Int} {a1:az} {r:Bool} (H:fF a0 a1=some r):Fn Tryz.prog 346 [aI a0,.agg (d5 a1)] [.c (.d (.b r))]:=by
 refine fI Tryz.func346 Tryz.ntmps346 ?_
 refine dI ?_
 obtain⟨r1,q1,H⟩:=ob H
 refine dA (ca (hF:=wg q1)) ?_
 refine wI ?_
 cases H
 exact ah
def kE (a0:ag) (a1:az):Option bH:=
 Un (iC a0.bv.ID (WR (a0.bv.cO+1))) fun r1=>Un (mD a0.bv r1) fun r2=>bif(eqB r2.1.ID.dL a0.bv.ID.dL&&(eqB r2.1.ID.bM a0.bv.ID.bM&&(eqB r2.1.eP a0.bv.eP&&(eqB r2.1.cO a0.bv.cO&&true)))) then(Un (kR a0) fun r3=>some r3) else(Un (ge a0) fun r4=>some (⟨{r4 with bv:=r2.1,aD:=r2.2,bC:=r2.1.cO},[(⟨2,a1.aU,r2.1.cO,0,0,r2.2,0⟩:az)]⟩:bH))
theorem xq {a0:ag} {a1:az} {r:bH} (H:kE a0 a1=some r):Fn Tryz.prog 356 [.agg (bS a0),.agg (d5 a1)] [.agg (qM [.o,.o,.o,.o] (d7 r))]:=by
 refine fI Tryz.func356 Tryz.ntmps356 ?_
 refine zI (List.range 18) ?_
 obtain⟨r1,q1,H⟩:=ob H
 refine zA (ca (hF:=p9 q1)) ?_
 obtain⟨r2,q2,H⟩:=ob H
 refine zA (ca (hF:=wb q2)) ?_
 refine wA (spx 100418) ?_
 refine wA (spx 100417) ?_
 refine cC H ?_ ?_<;>intro H
 ·obtain⟨r3,q3,H⟩:=ob H
  refine nA (ca (hF:=lC q3)) ?_
  cases H
  exact ah
 ·obtain⟨r4,q4,H⟩:=ob H
  refine nA (ca (hF:=fQ q4)) ?_
  cases H
  refine cG (wB 9 ([(⟨2,a1.aU,r2.1.cO,0,0,r2.2,0⟩:az)].length)) ?_
  exact ah
def ja (a0:mL) (a1:cH):Option (mL×lE):=
 Un (kA a0) fun r1=>bif !r1 then(some (a0,{gL with Code:=1})) else(Un (jo a0.eP a0.dw a1) fun r2=>bif eqB r2 0 then(Un (hO a0.eP a1.eJ a1.gx) fun r3=>Un (d6 a0.eP [3,a1.eJ]) fun r4=>Un (fP a0.eP a1.eJ r3) fun r5=>some ({a0 with dw:=r3},{gL with ug:=r4,uB:=r5.eP})) else(Un (bif eqB r2 2 then(some (eqB r2 2)) else(some (eqB r2 3))) fun(v6:Bool)=>bif v6 then(Un (ni a0.eP a1.eJ a0.dw) fun r7=>some (a0,{gL with Code:=r2,PM:=r7})) else(some (a0,{gL with Code:=r2}))))
theorem rJ {a0:mL} {a1:cH} {r:mL×lE} (H:ja a0 a1=some r):Fn Tryz.prog 378 [.agg (GS a0),.agg (qA a1)] [.agg (qM [] (GW r.1)),.agg (qM [] (rY r.2))]:=by
 refine fI Tryz.func378 Tryz.ntmps378 ?_
 obtain⟨r1,q1,H⟩:=ob H
 refine nA (ca (hF:=sN q1)) ?_
 refine cC H ?_ ?_<;>intro H
 ·cases H
  exact ah
 ·obtain⟨r2,q2,H⟩:=ob H
  refine nA (ca (hF:=rE q2)) ?_
  refine cC H ?_ ?_<;>intro H
  ·obtain⟨r3,q3,H⟩:=ob H
   refine nA (ca (hF:=o4 q3)) ?_
   refine qt [0,1,2,3,4,5,6,7,8,9,10,11,12,13,14,15,16] (h:=?_)
   refine wkb ?_
   refine yl rfl (bsx (bs rfl rfl rfl rfl rfl rfl rfl rfl) rfl) ?_
   refine wkb ?_
   obtain⟨r4,q4,H⟩:=ob H
   refine jD rfl (ca (hF:=dV q4)) ?_
   refine wkb ?_
   obtain⟨r5,q5,H⟩:=ob H
   refine jD rfl (ca (hF:=iS q5)) ?_
   refine wkb ?_
   refine yl rfl (spx 100460) ?_
   refine wkb ?_
   refine yl rfl (spx 100459) ?_
   refine wkb ?_
   refine wI ?_
   cases H
   exact ah
  ·obtain⟨v6,Hj,H⟩:=ob H
   refine jA ⟨[(2,tP 0),(3,tP 1),(4,tP 2),(5,tP 3),(6,tI r2),(48,tB v6)],[(0,.var 43 (kM [] (GW a0))),(1,.var 52 (kM [] (ez a1))),(2,.var 43 (kM [] (GW Oa))),(3,.var 285 (kM [] (rY gL)))],4⟩ ?_ ?_
   ·have H:=Hj
    refine cC H ?_ ?_<;>intro H
    ·cases H
     exact wo
    ·cases H
     exact wo
   refine cC H ?_ ?_<;>intro H
   ·refine zI (List.range 12) ?_
    obtain⟨r7,q7,H⟩:=ob H
    refine zA (ca (hF:=An q7)) ?_
    refine wA (spx 100462) ?_
    refine wA (spx 100461) ?_
    cases H
    exact ah
   ·cases H
    exact ah
def lP (a0:ab) (r1:bN):(Int×List ag)→Option (cB (Int×List ag) (List ag))
 |(v5,v6)=>bif ltB v5 ((v6.length:Nat):Int) then(Un (jk a0.dR v5) fun r14=>Un (jk r1 v5) fun r15=>Un (bif !eqB r14 r15 then(Un (ix v6 v5) fun x17=>Un (tG x17) fun r18=>Un (ix v6 v5) fun x19=>some (v6.set (v5).toNat r18)) else(some v6)) fun(v16:List ag)=>some (.next (WR (v5+1),v16))) else(some (.done v6))
def qX (a0:ab) (a1:Int) (a2:Bool):Option (Bool×ab):=
 Un (nj a0.dR a1 a2) fun r1=>Un (cz a1 0 (WR (a0.dR.fH-1))) fun r2=>Un (bif !r2 then(some true) else(Un (lZ a0.dR a1) fun r4=>bif booB r4 a2 then(some true) else(some (eqB r1.fj 0)))) fun(v3:Bool)=>bif v3 then(some (false,a0)) else(Un (iter (lP a0 r1) FU (0,a0.am)) fun(v13:List ag)=>some (true,{a0 with am:=v13,dR:=r1}))
theorem D0 {a0:ab} {a1:Int} {a2:Bool} {r:Bool×ab} (H:qX a0 a1 a2=some r):FnV Tryz.prog 232 (nS a0) [tP 200,tI a1,tB a2] (nS r.2) (.v (.c (.d false (.b r.1)))) []:=by
 refine fV Tryz.func232 Tryz.ntmps232 ?_
 obtain⟨r1,q1,H⟩:=ob H
 refine nA (ca (hF:=Ar q1)) ?_
 obtain⟨r2,q2,H⟩:=ob H
 refine nA (ca (hF:=bK q2)) ?_
 obtain⟨v3,Hj,H⟩:=ob H
 refine jR ⟨[(0,tP 200),(7,tP 210),(40,tB v3)],(nS a0++[(210,.var 32 (kM [] (dU r1)))]),211⟩ ?_ ?_
 ·have H:=Hj
  refine gC H ?_ ?_<;>intro H
  ·cases H
   exact wo
  ·obtain⟨r4,q4,H⟩:=ob H
   refine nG (ca (hF:=uu q4)) ?_
   refine gC H ?_ ?_<;>intro H
   ·cases H
    exact wo
   ·cases H
    exact wo
 refine cC H ?_ ?_<;>intro H
 ·cases H
  exact bV
 ·obtain⟨v13,Hj,H⟩:=ob H
  refine jB ⟨[],(nS {a0 with am:=v13,dR:=r1}),210⟩ ?_ ?_
  ·refine iT Hj (fun q=>⟨[(0,tP 200),(7,tP 210),(8,tP 211),(9,tI q.1)],(nS {a0 with am:=q.2,dR:=r1}++[(210,.var 32 (kM [] (dU r1))),(211,.var 32 (kM [] (dU a0.dR)))]),212⟩) ?_
   rintro⟨v5,v6⟩ o H
   try dsimp only
   refine wI ?_
   refine cC H ?_ ?_<;>intro H
   ·refine dI ?_
    obtain⟨r14,q14,H⟩:=ob H
    refine dA (ca (hF:=rz q14)) ?_
    obtain⟨r15,q15,H⟩:=ob H
    refine dA (ca (hF:=rz q15)) ?_
    refine wI ?_
    obtain⟨v16,Hj,H⟩:=ob H
    refine jA ⟨[(0,tP 200),(7,tP 210),(8,tP 211),(9,tI v5)],(nS {a0 with am:=v16,dR:=r1}++[(210,.var 32 (kM [] (dU r1))),(211,.var 32 (kM [] (dU a0.dR)))]),212⟩ ?_ ?_
    ·have H:=Hj
     refine cC H ?_ ?_<;>intro H
     ·refine zI (List.range 15) ?_
      obtain⟨x17,hx17,H⟩:=ob H
      refine zA (mq hx17) ?_
      refine zA (Dq (he:=fZ _ hx17)) ?_
      obtain⟨r18,q18,H⟩:=ob H
      refine zA (ca (hF:=F1 q18)) ?_
      obtain⟨x19,hx19,H⟩:=ob H
      refine zA (mq hx19) ?_
      refine zB (aq (aT (o:=212)) (aq (aT (o:=213)) (aq (aT (o:=214)) (aq (cA (k:=77)) (iK 191 (hne:=sv (enc:=bS) hx19)))))) (gq rfl (soT (enc:=bS) (a':=r18) hx19)) bT ?_
      cases H
      refine aq (du 191) ?_
      refine aq (wB 191 ((v6.set (v5).toNat r18).length)) ?_
      exact wo
     ·cases H
      exact wo
    cases H
    refine ee ?_
    exact wo
   ·cases H
    refine ed (fun hq=>?_)
    cases hq
    refine wI ?_
    exact wo
  cases H
  exact bV
end Go.AM
