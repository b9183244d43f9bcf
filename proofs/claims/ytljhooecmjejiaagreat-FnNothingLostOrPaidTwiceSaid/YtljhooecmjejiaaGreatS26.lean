/- A part. -/
import Derived.Test.YtljhooecmjejiaaGreatS25
set_option linter.unusedVariables false
open Option renaming bind→Un
namespace Go.AM
open Go.Proofs
attribute [local irreducible] AWN NS AWO AWR AWC DR cZ eE
set_option maxRecDepth 100000
set_option maxHeartbeats 40000000
def qW (a0:ab) (a1:cX):Option (Bool×ab):=
 Un (cz a1.cr 0 (WR (((a0.aQ.length:Nat):Int)-1))) fun r1=>bif !r1 then(some (false,a0)) else(bif eqB a1.aP 2 then(Un (pj a0 a1.cr) fun r2=>some (true,r2)) else(bif eqB a1.aP 3 then(Un (ta a0 a1.cr) fun r3=>some (true,{r3.2 with jX:=WR (r3.2.jX+1)})) else(bif leB 200 ((a0.aQ.length:Nat):Int) then(some (false,a0)) else(Un (ix a0.aQ a1.cr) fun x4=>Un (eM a0 x4) fun r5=>some (true,r5)))))
theorem DY {a0:ab} {a1:cX} {r:Bool×ab} (H:qW a0 a1=some r):FnV Tryz.prog 229 (nS a0) [tP 200,.v (.agg (kM [.t,.t] (eA a1)))] (nS r.2) (.v (.c (.d false (.b r.1)))) []:=by
 refine fV Tryz.func229 Tryz.ntmps229 ?_
 refine dI ?_
 obtain⟨r1,q1,H⟩:=ob H
 refine dA (ca (hF:=bK q1)) ?_
 refine wI ?_
 refine cC H ?_ ?_<;>intro H
 ·cases H
  exact bV
 ·refine cC H ?_ ?_<;>intro H
  ·obtain⟨r2,q2,H⟩:=ob H
   refine sA (cwu m0 [] 211 (Bt q2)) ?_
   cases H
   exact bV
  ·refine cC H ?_ ?_<;>intro H
   ·obtain⟨r3,q3,H⟩:=ob H
    refine sA (cwu m0 [] 211 (AO q3)) ?_
    cases H
    exact bV
   ·refine cC H ?_ ?_<;>intro H
    ·cases H
     exact bV
    ·refine zI (List.range 10) ?_
     obtain⟨x4,hx4,H⟩:=ob H
     refine zA (mq hx4) ?_
     refine zA (Dq (he:=fZ _ hx4)) ?_
     obtain⟨r5,q5,H⟩:=ob H
     refine zB bT (gq rfl (cwu m0 [] 211 (ow q5))) bT ?_
     cases H
     exact bV
def yP (a0:ab) (a1:cX):Option (Bool×ab):=
 Un (cz a1.cr 0 (WR (((a0.ai.length:Nat):Int)-1))) fun r1=>bif !r1 then(some (false,a0)) else(Un (ix a0.ai a1.cr) fun x2=>bif eqB a1.aP 5 then(bif !eqB x2.bg 0 then(some (false,a0)) else(Un (sP x2) fun r3=>Un (gk a0 a1.cr r3) fun r4=>some (true,r4))) else(bif eqB a1.aP 6 then(Un (bif eqB a1.aU x2.aU then(some true) else(Un (cz a1.aU 0 (WR (((a0.dW.aX.length:Nat):Int)-1))) fun r6=>some (!r6))) fun(v5:Bool)=>bif v5 then(some (false,a0)) else(Un (oS x2 a1.aU) fun r7=>Un (gk a0 a1.cr r7) fun r8=>some (true,r8))) else(bif eqB a1.aP 7 then(bif !eqB x2.bg 2 then(some (false,a0)) else(Un (qJ x2) fun r9=>Un (ix a0.ai a1.cr) fun x10=>some (true,{a0 with ai:=(a0.ai.set (a1.cr).toNat r9)}))) else(Un (ix a0.am a1.cr) fun x11=>Un (jn x11 a1.aN) fun r12=>Un (ix a0.am a1.cr) fun x13=>some (r12.2,{a0 with am:=(a0.am.set (a1.cr).toNat r12.1)})))))
theorem KO {a0:ab} {a1:cX} {r:Bool×ab} (H:yP a0 a1=some r):FnV Tryz.prog 230 (nS a0) [tP 200,.v (.agg (kM [.t,.t] (eA a1)))] (nS r.2) (.v (.c (.d false (.b r.1)))) []:=by
 refine fV Tryz.func230 Tryz.ntmps230 ?_
 obtain⟨r1,q1,H⟩:=ob H
 refine nA (ca (hF:=bK q1)) ?_
 refine cC H ?_ ?_<;>intro H
 ·cases H
  exact bV
 ·obtain⟨x2,hx2,H⟩:=ob H
  refine bR (iK 190 (hne:=sv (enc:=c7) hx2)) ?_
  refine nA (xwT hx2) ?_
  refine nA (oea (he:=fZ _ hx2)) ?_
  refine cC H ?_ ?_<;>intro H
  ·refine cC H ?_ ?_<;>intro H
   ·cases H
    refine bU ((du 190)) ?_
    exact bV
   ·obtain⟨r3,q3,H⟩:=ob H
    refine nA (ca (hF:=Ak q3)) ?_
    obtain⟨r4,q4,H⟩:=ob H
    refine bR (aT (o:=212)) ?_
    refine bR (cA (k:=58)) ?_
    refine bR (du 190) ?_
    refine sA (cwu m0 [] 213 (kV q4)) ?_
    cases H
    exact bV
  ·refine cC H ?_ ?_<;>intro H
   ·refine dI ?_
    obtain⟨v5,Hj,H⟩:=ob H
    refine fR ⟨[(0,tP 200),(3,tP 210),(5,tI a1.cr),(6,tP 211),(79,tB v5)],(oM [.t,.w 190,.n 191,.n 192,.n 193] 200 34 (aO a0)++[(210,.var 80 (kM [.t,.t] (eA a1))),(211,.var 45 (kM [.t,.t] (df x2)))]),212⟩ ?_ ?_
    ·have H:=Hj
     refine wI ?_
     refine dC H ?_ ?_<;>intro H
     ·refine wI ?_
      cases H
      exact wo
     ·obtain⟨r6,q6,H⟩:=ob H
      refine dG (ca (hF:=bK q6)) ?_
      refine wI ?_
      cases H
      exact wo
    refine wI ?_
    refine cC H ?_ ?_<;>intro H
    ·refine wI ?_
     cases H
     refine bU ((du 190)) ?_
     exact bV
    ·obtain⟨r7,q7,H⟩:=ob H
     refine nA (ca (hF:=Bn q7)) ?_
     obtain⟨r8,q8,H⟩:=ob H
     refine bR (aT (o:=212)) ?_
     refine bR (cA (k:=85)) ?_
     refine bR (du 190) ?_
     refine sA (cwu m0 [] 213 (kV q8)) ?_
     refine wI ?_
     cases H
     exact bV
   ·refine cC H ?_ ?_<;>intro H
    ·refine cC H ?_ ?_<;>intro H
     ·cases H
      refine bU ((du 190)) ?_
      exact bV
     ·refine zI (List.range 9) ?_
      obtain⟨r9,q9,H⟩:=ob H
      refine zA (ca (hF:=DD q9)) ?_
      obtain⟨x10,hx10,H⟩:=ob H
      refine zA (xwT hx10) ?_
      refine zB (aq (aT (o:=212)) (aq (aT (o:=213)) (cA (k:=98)))) (gq rfl (soT (enc:=c7) (a':=r9) hx10)) bT ?_
      cases H
      refine bU ((du 190)) ?_
      refine bU ((wB 190 ((a0.ai.set (a1.cr).toNat r9).length))) ?_
      exact bV
    ·refine zI (List.range 16) ?_
     obtain⟨x11,hx11,H⟩:=ob H
     refine zA (mq hx11) ?_
     refine zA (Dq (he:=fZ _ hx11)) ?_
     obtain⟨r12,q12,H⟩:=ob H
     refine zA (ca (hF:=rC q12)) ?_
     refine wA (spx 100474) ?_
     refine zI (List.range 8) ?_
     obtain⟨x13,hx13,H⟩:=ob H
     refine zA (mq hx13) ?_
     refine zB (aq (aT (o:=212)) (aq (aT (o:=213)) (aq (aT (o:=214)) (aq (cA (k:=47)) (iK 191 (hne:=sv (enc:=bS) hx13)))))) (gq rfl (soT (enc:=bS) (a':=r12.1) hx13)) bT ?_
     cases H
     refine bU ((du 190)) ?_
     refine bU ((du 191)) ?_
     refine bU ((wB 191 ((a0.am.set (a1.cr).toNat r12.1).length))) ?_
     exact bV
def tM (a0:ab) (a1:cX):Option (Bool×ab):=
 bif eqB a1.aP 1 then(Un (wH a0) fun r1=>some (r1.1,r1.2)) else(Un (bif eqB a1.aP 2 then(some (eqB a1.aP 2)) else(Un (bif eqB a1.aP 3 then(some (eqB a1.aP 3)) else(some (eqB a1.aP 4))) fun(v3:Bool)=>some v3)) fun(v2:Bool)=>bif v2 then(Un (qW a0 a1) fun r4=>some (r4.1,r4.2)) else(Un (bif eqB a1.aP 5 then(some (eqB a1.aP 5)) else(Un (bif eqB a1.aP 6 then(some (eqB a1.aP 6)) else(Un (bif eqB a1.aP 7 then(some (eqB a1.aP 7)) else(some (eqB a1.aP 8))) fun(v7:Bool)=>some v7)) fun(v6:Bool)=>some v6)) fun(v5:Bool)=>bif v5 then(Un (yP a0 a1) fun r8=>some (r8.1,r8.2)) else(Un (bif eqB a1.aP 9 then(some (eqB a1.aP 9)) else(some (eqB a1.aP 10))) fun(v9:Bool)=>bif v9 then(Un (wE a0 a1.cr (eqB a1.aP 10)) fun r10=>some (r10.1,r10.2)) else(Un (bif eqB a1.aP 11 then(some (eqB a1.aP 11)) else(some (eqB a1.aP 12))) fun(v11:Bool)=>bif v11 then(Un (qX a0 a1.cr (eqB a1.aP 12)) fun r12=>some (r12.1,r12.2)) else(bif eqB a1.aP 13 then(Un (gV a0 a1.bk) fun r13=>bif !r13 then(some (false,a0)) else(Un (eM a0 a1.bk) fun r14=>some (true,r14))) else(some (false,a0)))))))
theorem Gf {a0:ab} {a1:cX} {r:Bool×ab} (H:tM a0 a1=some r):FnV Tryz.prog 152 (nS a0) [tP 200,.v (.agg (kM [.t,.t] (eA a1)))] (nS r.2) (.v (.c (.d false (.b r.1)))) []:=by
 refine fV Tryz.func152 Tryz.ntmps152 ?_
 refine cC H ?_ ?_<;>intro H
 ·obtain⟨r1,q1,H⟩:=ob H
  refine sA (cwu m0 [] 211 (HM q1)) ?_
  cases H
  exact bV
 ·obtain⟨v2,Hj,H⟩:=ob H
  refine jA ⟨[(0,tP 200),(3,tP 210),(6,tI a1.aP),(11,tB v2)],(nS a0++[(210,.var 80 (kM [.t,.t] (eA a1)))]),211⟩ ?_ ?_
  ·have H:=Hj
   refine cC H ?_ ?_<;>intro H
   ·cases H
    exact wo
   ·obtain⟨v3,Hj,H⟩:=ob H
    refine jA ⟨[(0,tP 200),(3,tP 210),(6,tI a1.aP),(11,tB v3)],(nS a0++[(210,.var 80 (kM [.t,.t] (eA a1)))]),211⟩ ?_ ?_
    ·have H:=Hj
     refine cC H ?_ ?_<;>intro H
     ·cases H
      exact wo
     ·cases H
      exact wo
    cases H
    exact wo
  refine cC H ?_ ?_<;>intro H
  ·obtain⟨r4,q4,H⟩:=ob H
   refine sA (cwu m0 [] 211 (DY q4)) ?_
   cases H
   exact bV
  ·obtain⟨v5,Hj,H⟩:=ob H
   refine jA ⟨[(0,tP 200),(3,tP 210),(6,tI a1.aP),(18,tB v5)],(nS a0++[(210,.var 80 (kM [.t,.t] (eA a1)))]),211⟩ ?_ ?_
   ·have H:=Hj
    refine cC H ?_ ?_<;>intro H
    ·cases H
     exact wo
    ·obtain⟨v6,Hj,H⟩:=ob H
     refine jA ⟨[(0,tP 200),(3,tP 210),(6,tI a1.aP),(18,tB v6)],(nS a0++[(210,.var 80 (kM [.t,.t] (eA a1)))]),211⟩ ?_ ?_
     ·have H:=Hj
      refine cC H ?_ ?_<;>intro H
      ·cases H
       exact wo
      ·obtain⟨v7,Hj,H⟩:=ob H
       refine jA ⟨[(0,tP 200),(3,tP 210),(6,tI a1.aP),(18,tB v7)],(nS a0++[(210,.var 80 (kM [.t,.t] (eA a1)))]),211⟩ ?_ ?_
       ·have H:=Hj
        refine cC H ?_ ?_<;>intro H
        ·cases H
         exact wo
        ·cases H
         exact wo
       cases H
       exact wo
     cases H
     exact wo
   refine cC H ?_ ?_<;>intro H
   ·obtain⟨r8,q8,H⟩:=ob H
    refine sA (cwu m0 [] 211 (KO q8)) ?_
    cases H
    exact bV
   ·obtain⟨v9,Hj,H⟩:=ob H
    refine jA ⟨[(0,tP 200),(3,tP 210),(6,tI a1.aP),(26,tB v9)],(nS a0++[(210,.var 80 (kM [.t,.t] (eA a1)))]),211⟩ ?_ ?_
    ·have H:=Hj
     refine cC H ?_ ?_<;>intro H
     ·cases H
      exact wo
     ·cases H
      exact wo
    refine cC H ?_ ?_<;>intro H
    ·obtain⟨r10,q10,H⟩:=ob H
     refine sA (cwu m0 [] 211 (HK q10)) ?_
     cases H
     exact bV
    ·obtain⟨v11,Hj,H⟩:=ob H
     refine jA ⟨[(0,tP 200),(3,tP 210),(6,tI a1.aP),(36,tB v11)],(nS a0++[(210,.var 80 (kM [.t,.t] (eA a1)))]),211⟩ ?_ ?_
     ·have H:=Hj
      refine cC H ?_ ?_<;>intro H
      ·cases H
       exact wo
      ·cases H
       exact wo
     refine cC H ?_ ?_<;>intro H
     ·obtain⟨r12,q12,H⟩:=ob H
      refine sA (cwu m0 [] 211 (D0 q12)) ?_
      cases H
      exact bV
     ·refine cC H ?_ ?_<;>intro H
      ·refine dI ?_
       obtain⟨r13,q13,H⟩:=ob H
       refine dA (ca (hF:=s9 q13)) ?_
       refine wI ?_
       refine cC H ?_ ?_<;>intro H
       ·cases H
        exact bV
       ·obtain⟨r14,q14,H⟩:=ob H
        refine sA (cwu m0 [] 211 (ow q14)) ?_
        cases H
        exact bV
      ·cases H
       exact bV
end Go.AM
