/- A part. -/
import Derived.Test.YtljhooecmjejiaaGreatS20
set_option linter.unusedVariables false
open Option renaming bind→Un
namespace Go.AM
open Go.Proofs
attribute [local irreducible] AWN NS AWO AWR AWC DR cZ eE
set_option maxRecDepth 100000
set_option maxHeartbeats 40000000
def oY (a0:ag):(Int×bX)→Option (cB (Int×bX) (bX))
 |(v3,v39)=>Un (bif ltB v3 2 then(bif leB v39.aF.an.bj ((a0.ao.length:Nat):Int) then(some (ltB ((v39.aF.an.aw.length:Nat):Int) 8)) else(some false)) else(some false)) fun(v40:Bool)=>bif v40 then(Un (ix a0.ao (WR (v39.aF.an.bj-1))) fun x41=>Un (na v39.aF v39.dQ ((x41.aN.length:Nat):Int)) fun r42=>Un (kD r42.1 ((x41.aN.length:Nat):Int)) fun r43=>bif ltB 0 r43 then(dn (some {v39 with aF:=r42.1,dQ:=r42.2})) else(Un (mc r42.1.an x41.aN) fun r44=>bif r44.2.2 then(Un (s6 a0 r44.2.1) fun r45=>bif cS 64 (v39.b7++[r45]).length then(some (.next (WR (v3+1),(⟨{r42.1 with an:=r44.1},r42.2,v39.iy,(v39.b7++[r45])⟩:bX)))) else none) else(dn (some {v39 with aF:=r42.1,dQ:=r42.2})))) else(dn (some v39))
def sU (a0:ag) (a1:aj):Option bX:=
 Un (ot a0 a1) fun r1=>Un (s4 a0) fun r2=>bif r2 then(some r1) else(iter (oY a0) FU (0,r1))
theorem Ao {a0:ag} {a1:aj} {r:bX} (H:sU a0 a1=some r):Fn Tryz.prog 328 [.agg (bS a0),.agg (da a1)] [.agg (qM [.o,.o,.o,.o,.o,.o] (b9 r))]:=by
 refine fI Tryz.func328 Tryz.ntmps328 ?_
 obtain⟨r1,q1,H⟩:=ob H
 refine nA (ca (hF:=u9 q1)) ?_
 obtain⟨r2,q2,H⟩:=ob H
 refine nA (ca (hF:=AG q2)) ?_
 refine cC H ?_ ?_<;>intro H
 ·cases H
  exact ah
 ·refine iT H (fun q=>⟨[(2,tP 0),(4,tP 2),(5,tP 9),(6,tI q.1)],(oM [.w 3,.w 4,.w 5,.w 6,.w 7,.w 8] 9 190 (b9 q.2)++[(0,.var 60 (kM [.f,.f,.f] (cy a0))),(2,.var 190 (kM [.z,.z,.z,.z,.z,.z] (b9 cU)))]),10⟩) ?_
  rintro⟨v3,v39⟩ o H
  try dsimp only
  refine wI ?_
  obtain⟨v40,Hj,H⟩:=ob H
  refine jR ⟨[(2,tP 0),(4,tP 2),(5,tP 9),(6,tI v3),(38,tB v40)],(oM [.w 3,.w 4,.w 5,.w 6,.w 7,.w 8] 9 190 (b9 v39)++[(0,.var 60 (kM [.f,.f,.f] (cy a0))),(2,.var 190 (kM [.z,.z,.z,.z,.z,.z] (b9 cU)))]),10⟩ ?_ ?_
  ·have H:=Hj
   refine gC H ?_ ?_<;>intro H
   ·refine gC H ?_ ?_<;>intro H
    ·cases H
     exact wo
    ·cases H
     exact wo
   ·cases H
    exact wo
  refine cC H ?_ ?_<;>intro H
  ·obtain⟨x41,hx41,H⟩:=ob H
   refine nA (xdT (enc:=cj) hx41) ?_
   obtain⟨r42,q42,H⟩:=ob H
   refine nA (ca (hF:=Af q42)) ?_
   obtain⟨r43,q43,H⟩:=ob H
   refine nA (ca (hF:=sQ q43)) ?_
   refine cC H ?_ ?_<;>intro H
   ·obtain⟨r0,Hd,rfl⟩:=dnE H
    refine lT (fun hq=>?_)
    have H:=Hd.trans (congrArg some hq)
    refine wI ?_
    cases H
    exact ah
   ·obtain⟨r44,q44,H⟩:=ob H
    rcases hb:r44.2.2 with _|_
    ·have H:=bf hb H
     refine uh rfl (ca (hF:=Ap q44 hb)) ?_
     simp only[hb]
     refine wI ?_
     obtain⟨r0,Hd,rfl⟩:=dnE H
     refine lT (fun hq=>?_)
     have H:=Hd.trans (congrArg some hq)
     refine wI ?_
     cases H
     exact ah
    ·have H:=bt hb H
     refine uh rfl (ca (hF:=Aq q44 hb)) ?_
     simp only[hb]
     refine wI ?_
     refine zI (List.range 9) ?_
     obtain⟨r45,q45,H⟩:=ob H
     refine zA (ca (hF:=(AI q45).frzs (by repeat (first|exact trivial|refine⟨?_,?_⟩|exact lm _|rfl)))) ?_
     obtain⟨h,H⟩:=rq H
     refine zB bT (gq rfl (apT (enc:=dN) (ys:=v39.b7) (zs:=[r45]) h)) bT ?_
     refine wA (spx 100400) ?_
     cases H
     refine ee ?_
     refine aq (wS 3 10) ?_
     refine aq (wS 4 11) ?_
     refine aq (wS 5 16) ?_
     refine aq (wS 6 13) ?_
     exact wo
  ·obtain⟨r0,Hd,rfl⟩:=dnE H
   refine ed (fun hq=>?_)
   have H:=Hd.trans (congrArg some hq)
   refine wI ?_
   cases H
   exact ah
def iU (a0:ag) (a1:az):Option bH:=
 Un (bif leB a0.bC 0 then(some true) else(bif !eqB a1.aa a0.bC then(some true) else(Un (lA a0.aD a1.bM) fun r2=>bif !r2 then(some true) else(some (leB 999999 a0.aR))))) fun(v1:Bool)=>bif v1 then(Un (kR a0) fun r3=>some r3) else(Un (ge a0) fun r4=>Un (oo (⟨r4.bv,r4.gN,1,cg,0,a0.bC,a0.aD.eP,WR (a0.aR+1),a1.aU,0,eQ,r4.ao,r4.an,r4.dS,r4.bO⟩:ag) 4) fun r5=>some r5)
theorem uU {a0:ag} {a1:az} {r:bH} (H:iU a0 a1=some r):Fn Tryz.prog 357 [.agg (bS a0),.agg (d5 a1)] [.agg (qM [.d,.d,.d,.o] (d7 r))]:=by
 refine fI Tryz.func357 Tryz.ntmps357 ?_
 obtain⟨v1,Hj,H⟩:=ob H
 refine jR ⟨[(2,tP 0),(3,tP 1),(4,tP 2),(28,tB v1)],[(0,.var 60 (kM [.f,.f,.f] (cy a0))),(1,.var 72 (kM [] (cI a1))),(2,.var 236 (kM [.z,.z,.z,.z] (d7 mI)))],3⟩ ?_ ?_
 ·have H:=Hj
  refine gC H ?_ ?_<;>intro H
  ·cases H
   exact wo
  ·refine gC H ?_ ?_<;>intro H
   ·cases H
    exact wo
   ·obtain⟨r2,q2,H⟩:=ob H
    refine nG (ca (hF:=uV q2)) ?_
    refine gC H ?_ ?_<;>intro H
    ·cases H
     exact wo
    ·cases H
     exact wo
 refine cC H ?_ ?_<;>intro H
 ·obtain⟨r3,q3,H⟩:=ob H
  refine nA (ca (hF:=lC q3)) ?_
  cases H
  refine cG (aT (o:=3)) ?_
  refine cG (aT (o:=4)) ?_
  refine cG (aT (o:=5)) ?_
  refine cG (dr (o:=2)) ?_
  exact ah
 ·obtain⟨r4,q4,H⟩:=ob H
  refine nA (ca (hF:=fQ q4)) ?_
  obtain⟨r5,q5,H⟩:=ob H
  refine bR (aT (o:=3)) ?_
  refine bR (aT (o:=4)) ?_
  refine bR (aT (o:=5)) ?_
  refine bR (cA (k:=54)) ?_
  refine sA (cwu [] [(210,7)] 8 (FnV.up (wz q5) rfl rfl)) ?_
  cases H
  exact ah
def gS (a0:ag) (a1:az):Option bH:=
 Un (qk a0 a1) fun r1=>Un (bif !r1 then(some true) else(bif ltB a1.aR a0.aR then(some true) else(bif eqB a1.aR a0.aR then(some (!eqB a1.aU a0.aU)) else(some false)))) fun(v2:Bool)=>bif v2 then(Un (kR a0) fun r3=>some r3) else(Un (ge a0) fun r4=>Un (oo {r4 with aR:=a1.aR,aU:=a1.aU,d9:=0,ik:=eQ,dS:=0} 6) fun r5=>some r5)
theorem sS {a0:ag} {a1:az} {r:bH} (H:gS a0 a1=some r):Fn Tryz.prog 358 [.agg (bS a0),.agg (d5 a1)] [.agg (qM [.d,.d,.d,.o] (d7 r))]:=by
 refine fI Tryz.func358 Tryz.ntmps358 ?_
 obtain⟨r1,q1,H⟩:=ob H
 refine nA (ca (hF:=ye q1)) ?_
 obtain⟨v2,Hj,H⟩:=ob H
 refine jR ⟨[(2,tP 0),(3,tP 1),(4,tP 2),(30,tB v2)],[(0,.var 60 (kM [.f,.f,.f] (cy a0))),(1,.var 72 (kM [] (cI a1))),(2,.var 236 (kM [.z,.z,.z,.z] (d7 mI)))],3⟩ ?_ ?_
 ·have H:=Hj
  refine gC H ?_ ?_<;>intro H
  ·cases H
   exact wo
  ·refine gC H ?_ ?_<;>intro H
   ·cases H
    exact wo
   ·refine gC H ?_ ?_<;>intro H
    ·cases H
     exact wo
    ·cases H
     exact wo
 refine cC H ?_ ?_<;>intro H
 ·obtain⟨r3,q3,H⟩:=ob H
  refine nA (ca (hF:=lC q3)) ?_
  cases H
  refine cG (aT (o:=3)) ?_
  refine cG (aT (o:=4)) ?_
  refine cG (aT (o:=5)) ?_
  refine cG (dr (o:=2)) ?_
  exact ah
 ·obtain⟨r4,q4,H⟩:=ob H
  refine nA (ca (hF:=fQ q4)) ?_
  obtain⟨r5,q5,H⟩:=ob H
  refine bR (aT (o:=3)) ?_
  refine bR (aT (o:=4)) ?_
  refine bR (aT (o:=5)) ?_
  refine bR (cA (k:=45)) ?_
  refine sA (cwu [] [(210,7)] 8 (FnV.up (wz q5) rfl rfl)) ?_
  cases H
  exact ah
def jx (a0:ag) (a1:az):Option bH:=
 Un (qk a0 a1) fun r1=>Un (bif !r1 then(some true) else(some (ltB a0.an.bj a1.bM))) fun(v2:Bool)=>bif v2 then(Un (kR a0) fun r3=>some r3) else(Un (ge a0) fun r4=>Un (it a0.an a1.bM) fun r5=>Un (lB a0.an.aw) fun r6=>Un (lB r5.aw) fun r7=>Un (lK a0.bO (WR (r6-r7))) fun r8=>some (⟨{r4 with d9:=0,an:=r5,bO:=r8.1},([]:List az)⟩:bH))
theorem wc {a0:ag} {a1:az} {r:bH} (H:jx a0 a1=some r):Fn Tryz.prog 359 [.agg (bS a0),.agg (d5 a1)] [.agg (qM [.o,.o,.o,.o] (d7 r))]:=by
 refine fI Tryz.func359 Tryz.ntmps359 ?_
 obtain⟨r1,q1,H⟩:=ob H
 refine nA (ca (hF:=ye q1)) ?_
 obtain⟨v2,Hj,H⟩:=ob H
 refine jR ⟨[(2,tP 0),(3,tP 1),(4,tP 2),(19,tB v2)],[(0,.var 60 (kM [.f,.f,.f] (cy a0))),(1,.var 72 (kM [] (cI a1))),(2,.var 236 (kM [.z,.z,.z,.z] (d7 mI)))],3⟩ ?_ ?_
 ·have H:=Hj
  refine gC H ?_ ?_<;>intro H
  ·cases H
   exact wo
  ·cases H
   exact wo
 refine cC H ?_ ?_<;>intro H
 ·obtain⟨r3,q3,H⟩:=ob H
  refine nA (ca (hF:=lC q3)) ?_
  cases H
  exact ah
 ·obtain⟨r4,q4,H⟩:=ob H
  refine nA (ca (hF:=fQ q4)) ?_
  obtain⟨r5,q5,H⟩:=ob H
  refine nA (ca (hF:=ua q5)) ?_
  refine zI (List.range 18) ?_
  obtain⟨r6,q6,H⟩:=ob H
  refine zA (ca (hF:=o8 q6)) ?_
  obtain⟨r7,q7,H⟩:=ob H
  refine zA (ca (hF:=o8 q7)) ?_
  obtain⟨r8,q8,H⟩:=ob H
  refine zA (ca (hF:=yr q8)) ?_
  refine wA (spx 100438) ?_
  cases H
  refine cG (wB 9 (([]:List az).length)) ?_
  exact ah
def lL (a0:ay) (a1:av):Option aS:=
 Un (qL a0.aJ a0.aa a0.aR a1) fun r1=>Un (bif !eqB a0.bg 2 then(some true) else(some (!r1.2))) fun(v2:Bool)=>bif v2 then(Un (ol a0) fun r3=>some r3) else(Un (ia a0) fun r4=>Un (kF a0.bi r1.1) fun r5=>Un (gO a0.aJ (⟨8,a0.aU,a0.aa,a0.aR,r5.bj,cg,0⟩:az)) fun r6=>some (⟨{r4 with bi:=r5},[r6]⟩:aS))
theorem yv {a0:ay} {a1:av} {r:aS} (H:lL a0 a1=some r):Fn Tryz.prog 330 [.agg (c7 a0),.agg (dN a1)] [.agg (qM [.d,.o,.o] (cq r))]:=by
 refine fI Tryz.func330 Tryz.ntmps330 ?_
 obtain⟨r1,q1,H⟩:=ob H
 refine nA (ca (hF:=DF q1)) ?_
 obtain⟨v2,Hj,H⟩:=ob H
 refine jR ⟨[(2,tP 0),(4,tP 2),(5,tP 3),(26,tB v2)],[(0,.var 45 (kM [.f,.f] (df a0))),(2,.var 183 (kM [.z,.z,.z] (cq ef))),(3,.var 136 (kM [.t] (ec r1.1)))],4⟩ ?_ ?_
 ·have H:=Hj
  refine gC H ?_ ?_<;>intro H
  ·cases H
   exact wo
  ·cases H
   exact wo
 refine cC H ?_ ?_<;>intro H
 ·obtain⟨r3,q3,H⟩:=ob H
  refine nA (ca (hF:=qR q3)) ?_
  cases H
  refine cG (aT (o:=4)) ?_
  refine cG (dr (o:=2)) ?_
  exact ah
 ·obtain⟨r4,q4,H⟩:=ob H
  refine nA (ca (hF:=gU q4)) ?_
  obtain⟨r5,q5,H⟩:=ob H
  refine nA (ca (hF:=xr q5)) ?_
  obtain⟨r6,q6,H⟩:=ob H
  refine nA (ca (hF:=jm q6)) ?_
  cases H
  refine cG (wB 9 [r6].length) ?_
  exact ah
def s3 (a0:ay):Option aS:=
 Un (qj {a0 with aR:=WR (a0.aR+1),de:=false}) fun r1=>Un (jr {a0 with aR:=WR (a0.aR+1),de:=false} r1) fun r2=>some r2
theorem AE {a0:ay} {r:aS} (H:s3 a0=some r):FnV Tryz.prog 332 [] [.v (.agg (kM [.f,.f] (df a0)))] [] (.v (.agg (kM [.f,.f,.w 210] (cq r)))) [(210,w72 r.dD)]:=by
 refine fV Tryz.func332 Tryz.ntmps332 ?_
 refine zI (List.range 5) ?_
 obtain⟨r1,q1,H⟩:=ob H
 refine zA (ca (hF:=u7 q1)) ?_
 obtain⟨r2,q2,H⟩:=ob H
 refine zB bT (gq rfl (cwv [] [(210,212)] 213 (om q2))) bT ?_
 refine wA (spx 100454) ?_
 cases H
 refine bU (wS 212 210) ?_
 exact bV
end Go.AM
