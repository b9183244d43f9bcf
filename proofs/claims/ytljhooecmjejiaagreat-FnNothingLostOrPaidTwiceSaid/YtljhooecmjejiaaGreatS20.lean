/- A part. -/
import Derived.Test.YtljhooecmjejiaaGreatS19
set_option linter.unusedVariables false
open Option renaming bind→Un
namespace Go.AM
open Go.Proofs
attribute [local irreducible] AWN NS AWO AWR AWC DR cZ eE
set_option maxRecDepth 100000
set_option maxHeartbeats 40000000
def kt (a0:ab) (a1:cX):Int→Option (cB (Int) (Bool))
 |v4=>bif ltB v4 ((a0.aQ.length:Nat):Int) then(Un (ix a0.aQ v4) fun x5=>Un (kU x5 a1.bk) fun r6=>bif r6 then(dn (some true)) else(some (.next (WR (v4+1))))) else(dn (Un (ix a0.ai a1.bk.a9) fun x7=>Un (bif a1.bk.di then(some (!a1.bk.eb)) else(some false)) fun(v8:Bool)=>bif v8 then(Un (bif ltB a1.bk.b7.aa x7.aa then(some true) else(bif eqB a1.bk.b7.aa x7.aa then(Un (kP x7.aJ a1.bk.b7) fun r10=>some (!r10)) else(some false))) fun(v9:Bool)=>some v9) else(bif a1.bk.di then(some true) else(bif a1.bk.eb then(Un (ix a0.am a1.bk.a9) fun x11=>Un (kW x11 a1.bk.aV) fun r12=>some r12) else(Un (iX x7 a1.bk.aV) fun r13=>some r13)))))
def oP (a0:ab) (a1:cX):Option Bool:=
 Un (bif !eqB a1.aP 13 then(some true) else(Un (jw a0) fun r2=>bif !r2 then(some true) else(Un (gV a0 a1.bk) fun r3=>some (!r3)))) fun(v1:Bool)=>bif v1 then(some true) else(iter (kt a0 a1) FU 0)
theorem Bl {a0:ab} {a1:cX} {r:Bool} (H:oP a0 a1=some r):Fn Tryz.prog 280 [.agg (gD a0),.agg (yE a1)] [.c (.d (.b r))]:=by
 refine fI Tryz.func280 Tryz.ntmps280 ?_
 obtain⟨v1,Hj,H⟩:=ob H
 refine jR ⟨[(2,tP 0),(5,tP 2),(23,tB v1)],[(0,.var 34 (kM [.f,.f,.f,.f,.f] (aO a0))),(2,.var 78 (kM [.f] (kc a1.bk)))],3⟩ ?_ ?_
 ·have H:=Hj
  refine gC H ?_ ?_<;>intro H
  ·cases H
   exact wo
  ·obtain⟨r2,q2,H⟩:=ob H
   refine nG (ca (hF:=wa q2)) ?_
   refine gC H ?_ ?_<;>intro H
   ·cases H
    exact wo
   ·obtain⟨r3,q3,H⟩:=ob H
    refine nG (ca (hF:=s9 q3)) ?_
    cases H
    exact wo
 refine cC H ?_ ?_<;>intro H
 ·cases H
  exact ah
 ·refine iT H (fun q=>⟨[(2,tP 0),(5,tP 2),(6,tI q)],[(0,.var 34 (kM [.f,.f,.f,.f,.f] (aO a0))),(2,.var 78 (kM [.f] (kc a1.bk)))],3⟩) ?_
  rintro v4 o H
  try dsimp only
  refine wI ?_
  refine cC H ?_ ?_<;>intro H
  ·refine dI ?_
   obtain⟨x5,hx5,H⟩:=ob H
   refine dA (xdT (enc:=er) hx5) ?_
   obtain⟨r6,q6,H⟩:=ob H
   refine dA (ca (hF:=xC q6)) ?_
   refine wI ?_
   refine cC H ?_ ?_<;>intro H
   ·obtain⟨r0,Hd,rfl⟩:=dnE H
    refine lT (fun hq=>?_)
    have H:=Hd.trans (congrArg some hq)
    refine wI ?_
    cases H
    exact ah
   ·cases H
    refine ee ?_
    exact wo
  ·obtain⟨r0,Hd,rfl⟩:=dnE H
   refine ed (fun hq=>?_)
   have H:=Hd.trans (congrArg some hq)
   refine wI ?_
   obtain⟨x7,hx7,H⟩:=ob H
   refine nA (xdT (enc:=c7) hx7) ?_
   obtain⟨v8,Hj,H⟩:=ob H
   refine jR ⟨[(2,tP 0),(5,tP 2),(7,tP 3),(44,tB v8)],[(0,.var 34 (kM [.f,.f,.f,.f,.f] (aO a0))),(2,.var 78 (kM [.f] (kc a1.bk))),(3,.var 45 (kM [.f,.f] (df x7)))],4⟩ ?_ ?_
   ·have H:=Hj
    refine gC H ?_ ?_<;>intro H
    ·cases H
     exact wo
    ·cases H
     exact wo
   refine cC H ?_ ?_<;>intro H
   ·obtain⟨v9,Hj,H⟩:=ob H
    refine jR ⟨[(4,tB v9)],[],0⟩ ?_ ?_
    ·have H:=Hj
     refine gC H ?_ ?_<;>intro H
     ·cases H
      exact wo
     ·refine gC H ?_ ?_<;>intro H
      ·obtain⟨r10,q10,H⟩:=ob H
       refine nG (ca (hF:=sV q10)) ?_
       cases H
       exact wo
      ·cases H
       exact wo
    cases H
    exact ah
   ·refine cC H ?_ ?_<;>intro H
    ·cases H
     exact ah
    ·refine cC H ?_ ?_<;>intro H
     ·refine dI ?_
      obtain⟨x11,hx11,H⟩:=ob H
      refine dA (xdT (enc:=bS) hx11) ?_
      obtain⟨r12,q12,H⟩:=ob H
      refine dA (ca (hF:=xD q12)) ?_
      refine wI ?_
      cases H
      exact ah
     ·obtain⟨r13,q13,H⟩:=ob H
      refine nA (ca (hF:=va q13)) ?_
      cases H
      exact ah
def oZ (a0:ay):Option aS:=
 Un (ia a0) fun r1=>bif ltB 0 a0.fU then(some (⟨{r1 with fU:=WR (a0.fU-1)},([]:List az)⟩:aS)) else(bif eqB a0.bg 1 then(Un (oi a0) fun r2=>Un (jr r1 r2) fun r3=>some r3) else(Un (bif eqB a0.bg 2 then(some (!a0.de)) else(some false)) fun(v4:Bool)=>bif v4 then(Un (qj a0) fun r5=>Un (jr r1 r5) fun r6=>some r6) else(some (⟨r1,([]:List az)⟩:aS))))
theorem Bq {a0:ay} {r:aS} (H:oZ a0=some r):Fn Tryz.prog 282 [.agg (c7 a0)] [.agg (qM [.d,.d,.o] (cq r))]:=by
 refine fI Tryz.func282 Tryz.ntmps282 ?_
 obtain⟨r1,q1,H⟩:=ob H
 refine nA (ca (hF:=gU q1)) ?_
 refine cC H ?_ ?_<;>intro H
 ·cases H
  refine cG (wB 5 (([]:List az).length)) ?_
  refine cG (aT (o:=2)) ?_
  refine cG (aT (o:=3)) ?_
  refine cG (dr (o:=1)) ?_
  exact ah
 ·refine cC H ?_ ?_<;>intro H
  ·refine zI (List.range 5) ?_
   obtain⟨r2,q2,H⟩:=ob H
   refine zA (ca (hF:=wy q2)) ?_
   obtain⟨r3,q3,H⟩:=ob H
   refine zB (aq (aT (o:=2)) (aq (aT (o:=3)) (cA (k:=18)))) (gq rfl (cwu [] [(210,5)] 6 (FnV.up (om q3) rfl rfl))) bT ?_
   refine wA (spx 100333) ?_
   cases H
   exact ah
  ·obtain⟨v4,Hj,H⟩:=ob H
   refine jR ⟨[(1,tP 0),(2,tP 1),(3,tP 4),(22,tB v4)],(oM [.w 2,.w 3] 4 45 (df r1)++[(0,.var 45 (kM [.f,.f] (df a0))),(1,.var 183 (kM [.z,.z,.z] (cq ef)))]),5⟩ ?_ ?_
   ·have H:=Hj
    refine gC H ?_ ?_<;>intro H
    ·cases H
     exact wo
    ·cases H
     exact wo
   refine cC H ?_ ?_<;>intro H
   ·refine zI (List.range 5) ?_
    obtain⟨r5,q5,H⟩:=ob H
    refine zA (ca (hF:=u7 q5)) ?_
    obtain⟨r6,q6,H⟩:=ob H
    refine zB (aq (aT (o:=2)) (aq (aT (o:=3)) (cA (k:=31)))) (gq rfl (cwu [] [(210,5)] 6 (FnV.up (om q6) rfl rfl))) bT ?_
    refine wA (spx 100334) ?_
    cases H
    exact ah
   ·cases H
    refine cG (wB 5 (([]:List az).length)) ?_
    refine cG (aT (o:=2)) ?_
    refine cG (aT (o:=3)) ?_
    refine cG (dr (o:=1)) ?_
    exact ah
def gI (a0:ag):(Int×List av)→Option (cB (Int×List av) (List av))
 |(v1,v2)=>Un (bif ltB v1 ((a0.an.aw.length:Nat):Int) then(bif ltB v1 2 then(some (eqB a0.bg 1)) else(some false)) else(some false)) fun(v7:Bool)=>bif v7 then(Un (ix a0.an.aw v1) fun x8=>Un (s6 a0 x8) fun r9=>bif cS 64 (v2++[r9]).length then(some (.next (WR (v1+1),(v2++[r9])))) else none) else(some (.done v2))
def jS (a0:ag):Option (List av):=
 Un (iter (gI a0) FU (0,([]:List av))) fun(v6:List av)=>some v6
theorem uy {a0:ag} {r:List av} (H:jS a0=some r):Fn Tryz.prog 327 [.agg (bS a0)] [.c (.own 76 6 (r.map dN) r.length)]:=by
 refine fI Tryz.func327 Tryz.ntmps327 ?_
 obtain⟨v6,Hj,H⟩:=ob H
 refine jB ⟨[(3,.v (.c (.w 1 v6.length)))],[(1,w76 v6)],2⟩ ?_ ?_
 ·refine iT Hj (fun q=>⟨[(1,tP 0),(3,.v (.c (.w 1 q.2.length))),(4,tI q.1)],[(0,.var 60 (kM [.f,.f,.f] (cy a0))),(1,w76 q.2)],2⟩) ?_
  rintro⟨v1,v2⟩ o H
  try dsimp only
  refine wI ?_
  obtain⟨v7,Hj,H⟩:=ob H
  refine jR ⟨[(1,tP 0),(3,.v (.c (.w 1 v2.length))),(4,tI v1),(20,tB v7)],[(0,.var 60 (kM [.f,.f,.f] (cy a0))),(1,w76 v2)],2⟩ ?_ ?_
  ·have H:=Hj
   refine gC H ?_ ?_<;>intro H
   ·refine gC H ?_ ?_<;>intro H
    ·cases H
     exact wo
    ·cases H
     exact wo
   ·cases H
    exact wo
  refine cC H ?_ ?_<;>intro H
  ·refine zI (List.range 12) ?_
   obtain⟨x8,hx8,H⟩:=ob H
   refine zA (xdT (enc:=aE) hx8) ?_
   obtain⟨r9,q9,H⟩:=ob H
   refine zA (ca (hF:=(AI q9).frzs (by repeat (first|exact trivial|refine⟨?_,?_⟩|exact lm _|rfl)))) ?_
   obtain⟨h,H⟩:=rq H
   refine wA (apx (enc:=dN) (ys:=v2) (zs:=[r9]) [1,2] h) ?_
   refine jt (ds:=[1]) (by kernel_rfl) (by kernel_rfl) rfl ?_
   refine wI ?_
   cases H
   refine ee ?_
   refine aq (wS 1 3) ?_
   exact wo
  ·cases H
   refine ed (fun hq=>?_)
   cases hq
   refine wI ?_
   exact wo
 cases H
 exact ah
def oo (a0:ag) (a1:Int):Option bH:=
 Un (gO a0.aJ (⟨a1,a0.aU,a0.aa,a0.aR,0,cg,0⟩:az)) fun r1=>some (⟨a0,[r1]⟩:bH)
theorem wz {a0:ag} {a1:Int} {r:bH} (H:oo a0 a1=some r):FnV Tryz.prog 372 [] [.v (.agg (kM [.f,.f,.f] (cy a0))),tI a1] [] (.v (.agg (kM [.f,.f,.f,.w 210] (d7 r)))) [(210,w72 r.dD)]:=by
 refine fV Tryz.func372 Tryz.ntmps372 ?_
 refine zI (List.range 8) ?_
 obtain⟨r1,q1,H⟩:=ob H
 refine zA (ca (hF:=jm q1)) ?_
 refine wA (spx 100420) ?_
 cases H
 refine bU (wS 213 210) ?_
 refine bU ((wB 210 [r1].length)) ?_
 exact bV
def qk (a0:ag) (a1:az):Option Bool:=
 Un (bif eqB a0.bg 1 then(bif eqB a1.aa a0.aa then(Un (fF a0.aJ a1) fun r2=>some r2) else(some false)) else(some false)) fun(v1:Bool)=>some v1
theorem ye {a0:ag} {a1:az} {r:Bool} (H:qk a0 a1=some r):Fn Tryz.prog 373 [.agg (bS a0),.agg (d5 a1)] [.c (.d (.b r))]:=by
 refine fI Tryz.func373 Tryz.ntmps373 ?_
 obtain⟨v1,Hj,H⟩:=ob H
 refine jR ⟨[(4,tB v1)],[],0⟩ ?_ ?_
 ·have H:=Hj
  refine gC H ?_ ?_<;>intro H
  ·refine gC H ?_ ?_<;>intro H
   ·obtain⟨r2,q2,H⟩:=ob H
    refine nG (ca (hF:=hP q2)) ?_
    cases H
    exact wo
   ·cases H
    exact wo
  ·cases H
   exact wo
 cases H
 exact ah
def qL (a0:Int) (a1:Int) (a2:Int) (a3:av):Option (ae×Bool):=
 Un (bif !eqB a3.aa a1 then(some true) else(bif !eqB a3.aR a2 then(some true) else(Un (kP a0 a3) fun r2=>some (!r2)))) fun(v1:Bool)=>bif v1 then(some (gM,false)) else(Un (nB a0 a2) fun r3=>Un (uW r3 1 0 a3.aZ) fun r4=>some ((⟨r4.2.1,r4.1⟩:ae),r4.2.2))
theorem DF {a0:Int} {a1:Int} {a2:Int} {a3:av} {r:ae×Bool} (H:qL a0 a1 a2 a3=some r):Fn Tryz.prog 360 [aI a0,aI a1,aI a2,.agg (dN a3)] [.agg (qM [.d] (ec r.1)),.c (.d (.b r.2))]:=by
 refine fI Tryz.func360 Tryz.ntmps360 ?_
 obtain⟨v1,Hj,H⟩:=ob H
 refine jR ⟨[(0,tI a0),(2,tI a2),(7,tP 0),(8,tP 1),(28,tB v1)],[(0,.var 76 (kM [.f] (lG a3))),(1,.var 136 (kM [.z] (ec gM)))],2⟩ ?_ ?_
 ·have H:=Hj
  refine gC H ?_ ?_<;>intro H
  ·cases H
   exact wo
  ·refine gC H ?_ ?_<;>intro H
   ·cases H
    exact wo
   ·obtain⟨r2,q2,H⟩:=ob H
    refine nG (ca (hF:=sV q2)) ?_
    cases H
    exact wo
 refine cC H ?_ ?_<;>intro H
 ·cases H
  refine cG (N1 (o:=1)) ?_
  exact ah
 ·refine dI ?_
  obtain⟨r3,q3,H⟩:=ob H
  refine dA (ca (hF:=sR q3)) ?_
  obtain⟨r4,q4,H⟩:=ob H
  refine dA (ca (hF:=DG q4)) ?_
  refine wI ?_
  cases H
  refine cG (aT (o:=2)) ?_
  refine cG (dr (o:=1)) ?_
  exact ah
def tL (a0:ay) (a1:az):Option aS:=
 Un (ja a0.dq a1.bQ) fun r1=>Un (ia a0) fun r2=>bif !eqB r1.2.Code 0 then(some (⟨r2,([]:List az)⟩:aS)) else(some (⟨{r2 with dq:=r1.1,aa:=a1.aa,aJ:=r1.2.uB},[(⟨3,a0.aU,a1.aa,0,r1.2.ug,cg,0⟩:az)]⟩:aS))
theorem Ge {a0:ay} {a1:az} {r:aS} (H:tL a0 a1=some r):Fn Tryz.prog 362 [.agg (c7 a0),.agg (d5 a1)] [.agg (qM [.o,.o,.o] (cq r))]:=by
 refine fI Tryz.func362 Tryz.ntmps362 ?_
 obtain⟨r1,q1,H⟩:=ob H
 refine nA (ca (hF:=rJ q1)) ?_
 obtain⟨r2,q2,H⟩:=ob H
 refine nA (ca (hF:=gU q2)) ?_
 refine cC H ?_ ?_<;>intro H
 ·cases H
  refine cG (wB 8 (([]:List az).length)) ?_
  exact ah
 ·cases H
  refine cG (wB 8 ([(⟨3,a0.aU,a1.aa,0,r1.2.ug,cg,0⟩:az)].length)) ?_
  exact ah
end Go.AM
