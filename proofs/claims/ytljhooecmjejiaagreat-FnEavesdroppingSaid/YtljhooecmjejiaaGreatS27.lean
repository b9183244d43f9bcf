/- A part. -/
import Derived.Test.YtljhooecmjejiaaGreatS26
set_option linter.unusedVariables false
open Option renaming bind→Vj
namespace Go.AM
open Go.Proofs
attribute [local irreducible] AWN NS AWO AWR AWC DR cZ ey
set_option maxRecDepth 100000
set_option maxHeartbeats 40000000
def rK (a0:ab) (a1:df):Option (Bool×ab):=
 Vj (cH a1.cB 0 (WR (((a0.ay.length:Nat):Int)-1))) fun r1=>bif !r1 then(some (false,a0)) else(bif eqB a1.aR 2 then(Vj (pH a0 a1.cB) fun r2=>some (true,r2)) else(bif eqB a1.aR 3 then(Vj (tV a0 a1.cB) fun r3=>some (true,{r3.2 with kv:=WR (r3.2.kv+1)})) else(bif leB 200 ((a0.ay.length:Nat):Int) then(some (false,a0)) else(Vj (ix a0.ay a1.cB) fun x4=>Vj (eT a0 x4) fun r5=>some (true,r5)))))
theorem Ff {a0:ab} {a1:df} {r:Bool×ab} (H:rK a0 a1=some r):FnV Tryz.prog 229 (nS a0) [tP 200,.v (.agg (kM [.t,.t] (eN a1)))] (nS r.2) (.v (.c (.d false (.b r.1)))) []:=by
 refine fV Tryz.func229 Tryz.ntmps229 ?_
 refine dI ?_
 obtain⟨r1,q1,H⟩:=ob H
 refine dA (ca (hF:=bL q1)) ?_
 refine wI ?_
 refine cC H ?_ ?_<;>intro H
 ·cases H
  exact bU
 ·refine cC H ?_ ?_<;>intro H
  ·obtain⟨r2,q2,H⟩:=ob H
   refine sA (cwu m0 [] 211 (Cw q2)) ?_
   cases H
   exact bU
  ·refine cC H ?_ ?_<;>intro H
   ·obtain⟨r3,q3,H⟩:=ob H
    refine sA (cwu m0 [] 211 (BL q3)) ?_
    cases H
    exact bU
   ·refine cC H ?_ ?_<;>intro H
    ·cases H
     exact bU
    ·refine zI (List.range 10) ?_
     obtain⟨x4,hx4,H⟩:=ob H
     refine zA (mF hx4) ?_
     refine zA (ED (he:=eU _ hx4)) ?_
     obtain⟨r5,q5,H⟩:=ob H
     refine zB bO (f8 rfl (cwu m0 [] 211 (oQ q5))) bO ?_
     cases H
     exact bU
def zQ (a0:ab) (a1:df):Option (Bool×ab):=
 Vj (cH a1.cB 0 (WR (((a0.am.length:Nat):Int)-1))) fun r1=>bif !r1 then(some (false,a0)) else(Vj (ix a0.am a1.cB) fun x2=>bif eqB a1.aR 5 then(bif !eqB x2.bi 0 then(some (false,a0)) else(Vj (tC x2) fun r3=>Vj (gp a0 a1.cB r3) fun r4=>some (true,r4))) else(bif eqB a1.aR 6 then(Vj (bif eqB a1.aX x2.aX then(some true) else(Vj (cH a1.aX 0 (WR (((a0.dZ.aZ.length:Nat):Int)-1))) fun r6=>some (!r6))) fun(v5:Bool)=>bif v5 then(some (false,a0)) else(Vj (pc x2 a1.aX) fun r7=>Vj (gp a0 a1.cB r7) fun r8=>some (true,r8))) else(bif eqB a1.aR 7 then(bif !eqB x2.bi 2 then(some (false,a0)) else(Vj (rx x2) fun r9=>Vj (ix a0.am a1.cB) fun x10=>some (true,{a0 with am:=(a0.am.set (a1.cB).toNat r9)}))) else(Vj (ix a0.ai a1.cB) fun x11=>Vj (jF x11 a1.aQ) fun r12=>Vj (ix a0.ai a1.cB) fun x13=>some (r12.2,{a0 with ai:=(a0.ai.set (a1.cB).toNat r12.1)})))))
theorem L0 {a0:ab} {a1:df} {r:Bool×ab} (H:zQ a0 a1=some r):FnV Tryz.prog 230 (nS a0) [tP 200,.v (.agg (kM [.t,.t] (eN a1)))] (nS r.2) (.v (.c (.d false (.b r.1)))) []:=by
 refine fV Tryz.func230 Tryz.ntmps230 ?_
 obtain⟨r1,q1,H⟩:=ob H
 refine nA (ca (hF:=bL q1)) ?_
 refine cC H ?_ ?_<;>intro H
 ·cases H
  exact bU
 ·obtain⟨x2,hx2,H⟩:=ob H
  refine bT (iP 190 (hne:=tc (enc:=dE) hx2)) ?_
  refine nA (xwT hx2) ?_
  refine nA (oea (he:=eU _ hx2)) ?_
  refine cC H ?_ ?_<;>intro H
  ·refine cC H ?_ ?_<;>intro H
   ·cases H
    refine bV ((c8 190)) ?_
    exact bU
   ·obtain⟨r3,q3,H⟩:=ob H
    refine nA (ca (hF:=Bi q3)) ?_
    obtain⟨r4,q4,H⟩:=ob H
    refine bT (aV (o:=212)) ?_
    refine bT (cI (k:=58)) ?_
    refine bT (c8 190) ?_
    refine sA (cwu m0 [] 213 (lk q4)) ?_
    cases H
    exact bU
  ·refine cC H ?_ ?_<;>intro H
   ·refine dI ?_
    obtain⟨v5,Hj,H⟩:=ob H
    refine fF ⟨[(0,tP 200),(3,tP 210),(5,tI a1.cB),(6,tP 211),(79,tB v5)],(oM [.t,.w 190,.n 191,.n 192,.n 193] 200 34 (aH a0)++[(210,.var 80 (kM [.t,.t] (eN a1))),(211,.var 45 (kM [.t,.t] (dr x2)))]),212⟩ ?_ ?_
    ·have H:=Hj
     refine wI ?_
     refine dC H ?_ ?_<;>intro H
     ·refine wI ?_
      cases H
      exact wo
     ·obtain⟨r6,q6,H⟩:=ob H
      refine dG (ca (hF:=bL q6)) ?_
      refine wI ?_
      cases H
      exact wo
    refine wI ?_
    refine cC H ?_ ?_<;>intro H
    ·refine wI ?_
     cases H
     refine bV ((c8 190)) ?_
     exact bU
    ·obtain⟨r7,q7,H⟩:=ob H
     refine nA (ca (hF:=Cq q7)) ?_
     obtain⟨r8,q8,H⟩:=ob H
     refine bT (aV (o:=212)) ?_
     refine bT (cI (k:=85)) ?_
     refine bT (c8 190) ?_
     refine sA (cwu m0 [] 213 (lk q8)) ?_
     refine wI ?_
     cases H
     exact bU
   ·refine cC H ?_ ?_<;>intro H
    ·refine cC H ?_ ?_<;>intro H
     ·cases H
      refine bV ((c8 190)) ?_
      exact bU
     ·refine zI (List.range 9) ?_
      obtain⟨r9,q9,H⟩:=ob H
      refine zA (ca (hF:=EQ q9)) ?_
      obtain⟨x10,hx10,H⟩:=ob H
      refine zA (xwT hx10) ?_
      refine zB (an (aV (o:=212)) (an (aV (o:=213)) (cI (k:=98)))) (f8 rfl (soT (enc:=dE) (a':=r9) hx10)) bO ?_
      cases H
      refine bV ((c8 190)) ?_
      refine bV ((wB 190 ((a0.am.set (a1.cB).toNat r9).length))) ?_
      exact bU
    ·refine zI (List.range 16) ?_
     obtain⟨x11,hx11,H⟩:=ob H
     refine zA (mF hx11) ?_
     refine zA (ED (he:=eU _ hx11)) ?_
     obtain⟨r12,q12,H⟩:=ob H
     refine zA (ca (hF:=sm q12)) ?_
     refine wA (spx 100474) ?_
     refine zI (List.range 8) ?_
     obtain⟨x13,hx13,H⟩:=ob H
     refine zA (mF hx13) ?_
     refine zB (an (aV (o:=212)) (an (aV (o:=213)) (an (aV (o:=214)) (an (cI (k:=47)) (iP 191 (hne:=tc (enc:=bZ) hx13)))))) (f8 rfl (soT (enc:=bZ) (a':=r12.1) hx13)) bO ?_
     cases H
     refine bV ((c8 190)) ?_
     refine bV ((c8 191)) ?_
     refine bV ((wB 191 ((a0.ai.set (a1.cB).toNat r12.1).length))) ?_
     exact bU
def uw (a0:ab) (a1:df):Option (Bool×ab):=
 bif eqB a1.aR 1 then(Vj (xC a0) fun r1=>some (r1.1,r1.2)) else(Vj (bif eqB a1.aR 2 then(some (eqB a1.aR 2)) else(Vj (bif eqB a1.aR 3 then(some (eqB a1.aR 3)) else(some (eqB a1.aR 4))) fun(v3:Bool)=>some v3)) fun(v2:Bool)=>bif v2 then(Vj (rK a0 a1) fun r4=>some (r4.1,r4.2)) else(Vj (bif eqB a1.aR 5 then(some (eqB a1.aR 5)) else(Vj (bif eqB a1.aR 6 then(some (eqB a1.aR 6)) else(Vj (bif eqB a1.aR 7 then(some (eqB a1.aR 7)) else(some (eqB a1.aR 8))) fun(v7:Bool)=>some v7)) fun(v6:Bool)=>some v6)) fun(v5:Bool)=>bif v5 then(Vj (zQ a0 a1) fun r8=>some (r8.1,r8.2)) else(Vj (bif eqB a1.aR 9 then(some (eqB a1.aR 9)) else(some (eqB a1.aR 10))) fun(v9:Bool)=>bif v9 then(Vj (xA a0 a1.cB (eqB a1.aR 10)) fun r10=>some (r10.1,r10.2)) else(Vj (bif eqB a1.aR 11 then(some (eqB a1.aR 11)) else(some (eqB a1.aR 12))) fun(v11:Bool)=>bif v11 then(Vj (rL a0 a1.cB (eqB a1.aR 12)) fun r12=>some (r12.1,r12.2)) else(bif eqB a1.aR 13 then(Vj (gU a0 a1.bk) fun r13=>bif !r13 then(some (false,a0)) else(Vj (eT a0 a1.bk) fun r14=>some (true,r14))) else(some (false,a0)))))))
theorem Ht {a0:ab} {a1:df} {r:Bool×ab} (H:uw a0 a1=some r):FnV Tryz.prog 152 (nS a0) [tP 200,.v (.agg (kM [.t,.t] (eN a1)))] (nS r.2) (.v (.c (.d false (.b r.1)))) []:=by
 refine fV Tryz.func152 Tryz.ntmps152 ?_
 refine cC H ?_ ?_<;>intro H
 ·obtain⟨r1,q1,H⟩:=ob H
  refine sA (cwu m0 [] 211 (IZ q1)) ?_
  cases H
  exact bU
 ·obtain⟨v2,Hj,H⟩:=ob H
  refine jA ⟨[(0,tP 200),(3,tP 210),(6,tI a1.aR),(11,tB v2)],(nS a0++[(210,.var 80 (kM [.t,.t] (eN a1)))]),211⟩ ?_ ?_
  ·have H:=Hj
   refine cC H ?_ ?_<;>intro H
   ·cases H
    exact wo
   ·obtain⟨v3,Hj,H⟩:=ob H
    refine jA ⟨[(0,tP 200),(3,tP 210),(6,tI a1.aR),(11,tB v3)],(nS a0++[(210,.var 80 (kM [.t,.t] (eN a1)))]),211⟩ ?_ ?_
    ·have H:=Hj
     refine cC H ?_ ?_<;>intro H
     ·cases H
      exact wo
     ·cases H
      exact wo
    cases H
    exact wo
  refine cC H ?_ ?_<;>intro H
  ·obtain⟨r4,q4,H⟩:=ob H
   refine sA (cwu m0 [] 211 (Ff q4)) ?_
   cases H
   exact bU
  ·obtain⟨v5,Hj,H⟩:=ob H
   refine jA ⟨[(0,tP 200),(3,tP 210),(6,tI a1.aR),(18,tB v5)],(nS a0++[(210,.var 80 (kM [.t,.t] (eN a1)))]),211⟩ ?_ ?_
   ·have H:=Hj
    refine cC H ?_ ?_<;>intro H
    ·cases H
     exact wo
    ·obtain⟨v6,Hj,H⟩:=ob H
     refine jA ⟨[(0,tP 200),(3,tP 210),(6,tI a1.aR),(18,tB v6)],(nS a0++[(210,.var 80 (kM [.t,.t] (eN a1)))]),211⟩ ?_ ?_
     ·have H:=Hj
      refine cC H ?_ ?_<;>intro H
      ·cases H
       exact wo
      ·obtain⟨v7,Hj,H⟩:=ob H
       refine jA ⟨[(0,tP 200),(3,tP 210),(6,tI a1.aR),(18,tB v7)],(nS a0++[(210,.var 80 (kM [.t,.t] (eN a1)))]),211⟩ ?_ ?_
       ·have H:=Hj
        refine cC H ?_ ?_<;>intro H
        ·cases H
         exact wo
        ·cases H
         exact wo
       cases H
       exact wo
     cases H
     exact wo
   refine cC H ?_ ?_<;>intro H
   ·obtain⟨r8,q8,H⟩:=ob H
    refine sA (cwu m0 [] 211 (L0 q8)) ?_
    cases H
    exact bU
   ·obtain⟨v9,Hj,H⟩:=ob H
    refine jA ⟨[(0,tP 200),(3,tP 210),(6,tI a1.aR),(26,tB v9)],(nS a0++[(210,.var 80 (kM [.t,.t] (eN a1)))]),211⟩ ?_ ?_
    ·have H:=Hj
     refine cC H ?_ ?_<;>intro H
     ·cases H
      exact wo
     ·cases H
      exact wo
    refine cC H ?_ ?_<;>intro H
    ·obtain⟨r10,q10,H⟩:=ob H
     refine sA (cwu m0 [] 211 (IX q10)) ?_
     cases H
     exact bU
    ·obtain⟨v11,Hj,H⟩:=ob H
     refine jA ⟨[(0,tP 200),(3,tP 210),(6,tI a1.aR),(36,tB v11)],(nS a0++[(210,.var 80 (kM [.t,.t] (eN a1)))]),211⟩ ?_ ?_
     ·have H:=Hj
      refine cC H ?_ ?_<;>intro H
      ·cases H
       exact wo
      ·cases H
       exact wo
     refine cC H ?_ ?_<;>intro H
     ·obtain⟨r12,q12,H⟩:=ob H
      refine sA (cwu m0 [] 211 (Fg q12)) ?_
      cases H
      exact bU
     ·refine cC H ?_ ?_<;>intro H
      ·refine dI ?_
       obtain⟨r13,q13,H⟩:=ob H
       refine dA (ca (hF:=tU q13)) ?_
       refine wI ?_
       refine cC H ?_ ?_<;>intro H
       ·cases H
        exact bU
       ·obtain⟨r14,q14,H⟩:=ob H
        refine sA (cwu m0 [] 211 (oQ q14)) ?_
        cases H
        exact bU
      ·cases H
       exact bU
end Go.AM
