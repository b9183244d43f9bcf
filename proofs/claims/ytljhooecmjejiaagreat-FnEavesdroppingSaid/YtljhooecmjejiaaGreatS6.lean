/- A part. -/
import Derived.Test.YtljhooecmjejiaaGreatS4
import Derived.Test.YtljhooecmjejiaaGreatS5
set_option linter.unusedVariables false
open Option renaming bind→Vj
namespace Go.AM
open Go.Proofs
attribute [local irreducible] AWN NS AWO AWR AWC DR cZ ey
set_option maxRecDepth 100000
set_option maxHeartbeats 40000000
def fZ (a0:aE) (a1:Int):Option (Bool×aE):=
 Vj (bS a0 a1) fun r1=>some (eqB r1.1 0,r1.2)
theorem fK {a0:aE} {a1:Int} {r:Bool×aE} (H:fZ a0 a1=some r):FnW Tryz.prog 130 (.var 143 (kM [.f] (bg a0))) [tP 200,tI a1] (.var 143 (kM [.f] (bg r.2))) [.c (.d (.b r.1))]:=by
 refine fW Tryz.func130 Tryz.ntmps130 ?_
 obtain⟨r1,q1,H⟩:=ob H
 refine sA (cw (o:=200) (bz q1)) ?_
 cases H
 exact eu
def dV (a0:aC):Option Bool:=
 Vj (fm a0.ID) fun r1=>Vj (bif r1 then(Vj (fG a0.eY) fun r3=>bif r3 then(Vj (cH a0.cT 0 999999) fun r4=>some r4) else(some false)) else(some false)) fun(v2:Bool)=>some v2
theorem fT {a0:aC} {r:Bool} (H:dV a0=some r):Fn Tryz.prog 246 [.agg (ct a0)] [.c (.d (.b r))]:=by
 refine fI Tryz.func246 Tryz.ntmps246 ?_
 obtain⟨r1,q1,H⟩:=ob H
 refine nA (ca (hF:=kP q1)) ?_
 obtain⟨v2,Hj,H⟩:=ob H
 refine jR ⟨[(2,tB v2)],[],0⟩ ?_ ?_
 ·have H:=Hj
  refine gC H ?_ ?_<;>intro H
  ·obtain⟨r3,q3,H⟩:=ob H
   refine nG (ca (hF:=gm q3)) ?_
   refine gC H ?_ ?_<;>intro H
   ·obtain⟨r4,q4,H⟩:=ob H
    refine nG (ca (hF:=bL q4)) ?_
    cases H
    exact wo
   ·cases H
    exact wo
  ·cases H
   exact wo
 cases H
 exact ah
def vY (a0:aE):Option (Int×aE):=
 Vj (bS a0 6) fun r1=>some (WR (100+r1.1),r1.2)
theorem Hw {a0:aE} {r:Int×aE} (H:vY a0=some r):FnW Tryz.prog 197 (.var 143 (kM [.f] (bg a0))) [tP 200] (.var 143 (kM [.f] (bg r.2))) [.c (.d (.i .i64 r.1))]:=by
 refine fW Tryz.func197 Tryz.ntmps197 ?_
 obtain⟨r1,q1,H⟩:=ob H
 refine sA (cw (o:=200) (bz q1)) ?_
 cases H
 exact eu
def gh (a0:ag):Option ag:=
 Vj (qI a0.gL) fun r1=>Vj (oH a0.ax) fun r2=>Vj (kh a0.aq) fun r3=>some {a0 with gL:=r1,ax:=r2,aq:=r3}
theorem fX {a0:ag} {r:ag} (H:gh a0=some r):Fn Tryz.prog 198 [.agg (bZ a0)] [.agg (qM [.o,.o,.o] (cF r))]:=by
 refine fI Tryz.func198 Tryz.ntmps198 ?_
 obtain⟨r1,q1,H⟩:=ob H
 refine nA (ca (hF:=BD q1)) ?_
 obtain⟨r2,q2,H⟩:=ob H
 refine nA (ca (hF:=xp q2)) ?_
 obtain⟨r3,q3,H⟩:=ob H
 refine nA (ca (hF:=jf q3)) ?_
 cases H
 exact ah
def ic (a0:az):Option az:=
 Vj (tM a0.bM) fun r1=>some {a0 with bM:=r1}
theorem gT {a0:az} {r:az} (H:ic a0=some r):Fn Tryz.prog 201 [.agg (dE a0)] [.agg (qM [.o,.o] (dr r))]:=by
 refine fI Tryz.func201 Tryz.ntmps201 ?_
 obtain⟨r1,q1,H⟩:=ob H
 refine nA (ca (hF:=BA q1)) ?_
 cases H
 exact ah
def eT (a0:ab) (a1:bD):Option ab:=
 bif leB 200 ((a0.ay.length:Nat):Int) then(some {a0 with kv:=WR (a0.kv+1)}) else(Vj (oO a1) fun r1=>bif cM 176 (a0.ay++[r1]).length then(some {a0 with ay:=(a0.ay++[r1])}) else none)
theorem oQ {a0:ab} {a1:bD} {r:ab} (H:eT a0 a1=some r):FnV Tryz.prog 132 (nS a0) [tP 200,.v (.agg (kM [.t] (gD a1)))] (nS r) (.tup []) []:=by
 refine fV Tryz.func132 Tryz.ntmps132 ?_
 refine cC H ?_ ?_<;>intro H
 ·cases H
  exact bU
 ·refine Pv 0 18 0 [1,2,3,4,5,6,7,8,9,10,11] Try.follows (by kernel_rfl) (by kernel_rfl) rfl (by kernel_rfl) rfl rfl ?_
  refine wI ?_
  obtain⟨r1,q1,H⟩:=ob H
  refine zA (ca (hF:=(xy q1).frzs (by repeat (first|exact trivial|refine⟨?_,?_⟩|exact lm _|rfl)))) ?_
  obtain⟨h,H⟩:=rq H
  refine zB bO (f8 rfl (xL (enc:=dK) (ys:=a0.ay) (zs:=[r1]) h (by first|exact List.cons_ne_nil _ _|simp) rfl (fun _=>rfl) (by first|rfl|simp) (.w rfl (by first|rfl|exact lm _|simp)) rfl rfl rfl rfl rfl rfl rfl rfl rfl rfl)) bO ?_
  refine wA (spx 100084) ?_
  cases H
  refine bV ((c8 193)) ?_
  exact sW
def tx (a0:List Int):(Int×Int)→Option (cp (Int×Int) (Int))
 |(v1,v2)=>bif ltB v2 ((a0.length:Nat):Int) then(Vj (ix a0 v2) fun x6=>Vj (Cp x6 2147483647) fun r7=>some (.next (Int.tmod (WR ((WR ((WR (v1*1000003))+r7))+13)) 2147483647,WR (v2+1)))) else(some (.done v1))
def Kv (a0:List Int):Option Int:=
 Vj (iter (tx a0) FU (11,0)) fun(v5:Int)=>some v5
theorem QH {a0:List Int} {r:Int} (H:Kv a0=some r):Fn Tryz.prog 236 [aL (a0.map eI)] [.c (.d (.i .i64 r))]:=by
 refine fI Tryz.func236 Tryz.ntmps236 ?_
 obtain⟨v5,Hj,H⟩:=ob H
 refine jB ⟨[(3,tI v5)],[],0⟩ ?_ ?_
 ·refine iT Hj (fun q=>⟨[(0,.v (.c (.d false (.l (a0.map eI))))),(3,tI q.1),(4,tI q.2)],[],0⟩) ?_
  rintro⟨v1,v2⟩ o H
  try dsimp only
  refine wI ?_
  refine cC H ?_ ?_<;>intro H
  ·obtain⟨x6,hx6,H⟩:=ob H
   refine nA (xdT (enc:=eI) hx6) ?_
   obtain⟨r7,q7,H⟩:=ob H
   refine nA (ca (hF:=vL q7)) ?_
   refine nA (ir rfl rfl rfl (by decide)) ?_
   cases H
   refine dU ?_
   exact wo
  ·cases H
   refine dT (fun hq=>?_)
   cases hq
   refine wI ?_
   exact wo
 cases H
 exact ah
def vU (a0:aE) (a1:List Int):Option (Int×aE):=
 Vj (bS a0 ((a1.length:Nat):Int)) fun r1=>Vj (ix a1 r1.1) fun x2=>some (x2,r1.2)
theorem xq {a0:aE} {a1:List Int} {r:Int×aE} (H:vU a0 a1=some r):FnW Tryz.prog 343 (.var 143 (kM [.f] (bg a0))) [tP 200,.v (.c (.d false (.l (a1.map eI))))] (.var 143 (kM [.f] (bg r.2))) [.c (.d (.i .i64 r.1))]:=by
 refine fW Tryz.func343 Tryz.ntmps343 ?_
 obtain⟨r1,q1,H⟩:=ob H
 refine sA (cw (o:=200) (bz q1)) ?_
 obtain⟨x2,hx2,H⟩:=ob H
 refine nA (xdT (enc:=eI) hx2) ?_
 cases H
 exact eu
def kR (a0:mV):Option Bool:=
 Vj (fm a0.ID) fun r1=>Vj (bif r1 then(Vj (fG a0.eY) fun r3=>bif r3 then(Vj (cH a0.dD 0 999999) fun r4=>some r4) else(some false)) else(some false)) fun(v2:Bool)=>some v2
theorem tz {a0:mV} {r:Bool} (H:kR a0=some r):Fn Tryz.prog 244 [.agg (H9 a0)] [.c (.d (.b r))]:=by
 refine fI Tryz.func244 Tryz.ntmps244 ?_
 obtain⟨r1,q1,H⟩:=ob H
 refine nA (ca (hF:=kP q1)) ?_
 obtain⟨v2,Hj,H⟩:=ob H
 refine jR ⟨[(2,tB v2)],[],0⟩ ?_ ?_
 ·have H:=Hj
  refine gC H ?_ ?_<;>intro H
  ·obtain⟨r3,q3,H⟩:=ob H
   refine nG (ca (hF:=gm q3)) ?_
   refine gC H ?_ ?_<;>intro H
   ·obtain⟨r4,q4,H⟩:=ob H
    refine nG (ca (hF:=bL q4)) ?_
    cases H
    exact wo
   ·cases H
    exact wo
  ·cases H
   exact wo
 cases H
 exact ah
def hO (a0:dh):Option Int:=
 Vj (fH a0) fun r1=>bif !r1 then(some 0) else(some (WR (a0.cL-a0.er)))
theorem pm {a0:dh} {r:Int} (H:hO a0=some r):Fn Tryz.prog 80 [.agg (ue a0)] [.c (.d (.i .i64 r))]:=by
 refine fI Tryz.func80 Tryz.ntmps80 ?_
 obtain⟨r1,q1,H⟩:=ob H
 refine nA (ca (hF:=g7 q1)) ?_
 refine cC H ?_ ?_<;>intro H
 ·cases H
  exact ah
 ·cases H
  exact ah
def eE (a0:aj) (a1:dh):Option Bool:=
 Vj (fC a0) fun r1=>Vj (bif r1 then(Vj (fH a1) fun r3=>bif r3 then(Vj (kZ a0 a1.au) fun r4=>some (eqB r4 a1.cL)) else(some false)) else(some false)) fun(v2:Bool)=>some v2
theorem gQ {a0:aj} {a1:dh} {r:Bool} (H:eE a0 a1=some r):Fn Tryz.prog 189 [.agg (dB a0),.agg (ue a1)] [.c (.d (.b r))]:=by
 refine fI Tryz.func189 Tryz.ntmps189 ?_
 refine dI ?_
 obtain⟨r1,q1,H⟩:=ob H
 refine dA (ca (hF:=iw q1)) ?_
 obtain⟨v2,Hj,H⟩:=ob H
 refine fF ⟨[(4,tB v2)],[],0⟩ ?_ ?_
 ·have H:=Hj
  refine wI ?_
  refine dC H ?_ ?_<;>intro H
  ·obtain⟨r3,q3,H⟩:=ob H
   refine dG (ca (hF:=g7 q3)) ?_
   refine dC H ?_ ?_<;>intro H
   ·obtain⟨r4,q4,H⟩:=ob H
    refine dG (ca (hF:=tG q4)) ?_
    refine wI ?_
    cases H
    exact wo
   ·refine wI ?_
    cases H
    exact wo
  ·refine wI ?_
   cases H
   exact wo
 refine wI ?_
 cases H
 exact ah
def o8 (a0:ao) (a1:ao):Option Bool:=
 Vj (bif eqB a0.aa a1.aa then(bif eqB a0.aO a1.aO then(Vj (p7 a0.aT a1.aT) fun r2=>some r2) else(some false)) else(some false)) fun(v1:Bool)=>some v1
theorem Cn {a0:ao} {a1:ao} {r:Bool} (H:o8 a0 a1=some r):Fn Tryz.prog 345 [.agg (dq a0),.agg (dq a1)] [.c (.d (.b r))]:=by
 refine fI Tryz.func345 Tryz.ntmps345 ?_
 obtain⟨v1,Hj,H⟩:=ob H
 refine jR ⟨[(4,tB v1)],[],0⟩ ?_ ?_
 ·have H:=Hj
  refine gC H ?_ ?_<;>intro H
  ·refine gC H ?_ ?_<;>intro H
   ·obtain⟨r2,q2,H⟩:=ob H
    refine nG (ca (hF:=zm q2)) ?_
    cases H
    exact wo
   ·cases H
    exact wo
  ·cases H
   exact wo
 cases H
 exact ah
def EN (a0:aj) (a1:Int) (a2:Int):Option (aj×Bool):=
 Vj (jI a0) fun r1=>Vj (fC a0) fun r2=>Vj (bif !r2 then(some true) else(Vj (kZ a0 a1) fun r4=>Vj (cH a2 0 r4) fun r5=>some (!r5))) fun(v3:Bool)=>bif v3 then(some (r1,false)) else(Vj (bif ltB 0 a2 then(Vj (mB a0 a1) fun r9=>Vj (zN a0.aD r9 a2) fun r10=>some {r1 with eH:=WR (a0.eH+a2),aD:=r10}) else(some r1)) fun(v8:aj)=>some (v8,true))
theorem Ot {a0:aj} {a1:Int} {a2:Int} {r:aj×Bool} (H:EN a0 a1 a2=some r):Fn Tryz.prog 348 [.agg (dB a0),aI a1,aI a2] [.agg (qM [.o] (cS r.1)),.c (.d (.b r.2))]:=by
 refine fI Tryz.func348 Tryz.ntmps348 ?_
 obtain⟨r1,q1,H⟩:=ob H
 refine nA (ca (hF:=kf q1)) ?_
 obtain⟨r2,q2,H⟩:=ob H
 refine nA (ca (hF:=iw q2)) ?_
 obtain⟨v3,Hj,H⟩:=ob H
 refine jR ⟨[(1,tI a1),(2,tI a2),(3,tP 0),(6,tP 1),(8,tP 3),(21,tB v3)],(oM [.w 2] 3 66 (cS r1)++[(0,.var 66 (kM [.f] (cS a0))),(1,.var 66 (kM [.z] (cS lR)))]),4⟩ ?_ ?_
 ·have H:=Hj
  refine gC H ?_ ?_<;>intro H
  ·cases H
   exact wo
  ·obtain⟨r4,q4,H⟩:=ob H
   refine nG (ca (hF:=tG q4)) ?_
   obtain⟨r5,q5,H⟩:=ob H
   refine nG (ca (hF:=bL q5)) ?_
   cases H
   exact wo
 refine cC H ?_ ?_<;>intro H
 ·cases H
  exact ah
 ·obtain⟨v8,Hj,H⟩:=ob H
  refine jA ⟨[(6,tP 1),(8,tP 3)],(oM [.w 4] 3 66 (cS v8)++[(1,.var 66 (kM [.z] (cS lR)))]),5⟩ ?_ ?_
  ·have H:=Hj
   refine cC H ?_ ?_<;>intro H
   ·refine zI (List.range 9) ?_
    obtain⟨r9,q9,H⟩:=ob H
    refine zA (ca (hF:=vT q9)) ?_
    obtain⟨r10,q10,H⟩:=ob H
    refine zA (ca (hF:=LX q10)) ?_
    refine wA (spx 100340) ?_
    cases H
    exact wo
   ·cases H
    refine an (uG (nx':=5) rfl) ?_
    refine an (wS 4 2) ?_
    exact wo
  cases H
  exact ah
def pu (a0:cU) (a1:aM):Option (cU×List Int):=
 bif ltB 0 a0.f7 then(some ({a0 with f7:=WR (a0.f7-1)},([]:List Int))) else(Vj (bif ltB a0.eR 4 then(some (WR (a0.eR+1))) else(some 1)) fun(v1:Int)=>Vj (nC a1 a0.f5 v1) fun r2=>some ((⟨a0.f5,v1,3⟩:cU),r2))
theorem Cu {a0:cU} {a1:aM} {r:cU×List Int} (H:pu a0 a1=some r):Fn Tryz.prog 349 [.agg (uX a0),.agg (lx a1)] [.agg (qM [] (ju r.1)),.c (.own 3 1 (r.2.map eI) r.2.length)]:=by
 refine fI Tryz.func349 Tryz.ntmps349 ?_
 refine cC H ?_ ?_<;>intro H
 ·cases H
  exact ah
 ·obtain⟨v1,Hj,H⟩:=ob H
  refine jA ⟨[(2,tP 0),(3,tP 1),(4,tP 2),(6,tP 3)],[(0,.var 54 (kM [] (ju a0))),(1,.var 26 [.d false (.l (a1.aZ.map dW))]),(2,.var 54 (kM [] (ju fa))),(3,.var 54 (kM [] (ju {a0 with eR:=v1})))],4⟩ ?_ ?_
  ·have H:=Hj
   refine cC H ?_ ?_<;>intro H
   ·cases H
    exact wo
   ·cases H
    exact wo
  refine zI (List.range 9) ?_
  obtain⟨r2,q2,H⟩:=ob H
  refine zA (ca (hF:=Bh q2)) ?_
  refine wA (spx 100350) ?_
  cases H
  exact ah
def xg (a0:aj) (a1:Int) (a2:Int):Option (aj×Int):=
 Vj (jI a0) fun r1=>Vj (fC a0) fun r2=>Vj (bif !r2 then(some true) else(bif ltB a1 0 then(some true) else(Vj (cH a2 1 100000) fun r4=>bif !r4 then(some true) else(bif eqB a0.bQ 0 then(some true) else(bif leB 8 ((a0.aD.length:Nat):Int) then(Vj (mB a0 a1) fun r5=>some (ltB r5 0)) else(some false)))))) fun(v3:Bool)=>bif v3 then(some (r1,0)) else(Vj (Bg a2 a0.bQ) fun r6=>Vj (zM a0.aD a1 r6) fun r7=>some ({r1 with bQ:=WR (a0.bQ-r6),aD:=r7},r6))
theorem IK {a0:aj} {a1:Int} {a2:Int} {r:aj×Int} (H:xg a0 a1 a2=some r):Fn Tryz.prog 380 [.agg (dB a0),aI a1,aI a2] [.agg (qM [.o] (cS r.1)),.c (.d (.i .i64 r.2))]:=by
 refine fI Tryz.func380 Tryz.ntmps380 ?_
 obtain⟨r1,q1,H⟩:=ob H
 refine nA (ca (hF:=kf q1)) ?_
 obtain⟨r2,q2,H⟩:=ob H
 refine nA (ca (hF:=iw q2)) ?_
 obtain⟨v3,Hj,H⟩:=ob H
 refine jR ⟨[(1,tI a1),(2,tI a2),(3,tP 0),(6,tP 1),(8,tP 3),(39,tB v3)],(oM [.w 2] 3 66 (cS r1)++[(0,.var 66 (kM [.f] (cS a0))),(1,.var 66 (kM [.z] (cS lR)))]),4⟩ ?_ ?_
 ·have H:=Hj
  refine gC H ?_ ?_<;>intro H
  ·cases H
   exact wo
  ·refine gC H ?_ ?_<;>intro H
   ·cases H
    exact wo
   ·obtain⟨r4,q4,H⟩:=ob H
    refine nG (ca (hF:=bL q4)) ?_
    refine gC H ?_ ?_<;>intro H
    ·cases H
     exact wo
    ·refine gC H ?_ ?_<;>intro H
     ·cases H
      exact wo
     ·refine gC H ?_ ?_<;>intro H
      ·obtain⟨r5,q5,H⟩:=ob H
       refine nG (ca (hF:=vT q5)) ?_
       cases H
       exact wo
      ·cases H
       exact wo
 refine cC H ?_ ?_<;>intro H
 ·cases H
  exact ah
 ·obtain⟨r6,q6,H⟩:=ob H
  refine nA (ca (hF:=yn q6)) ?_
  obtain⟨r7,q7,H⟩:=ob H
  refine nA (ca (hF:=LW q7)) ?_
  cases H
  exact ah
end Go.AM
