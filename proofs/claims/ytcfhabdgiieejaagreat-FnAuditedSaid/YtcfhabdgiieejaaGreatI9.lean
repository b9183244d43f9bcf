/- A part. -/
import Derived.Test.YtcfhabdgiieejaaGreatI8
set_option linter.unusedVariables false
open Option renaming bind->abJ
open List renaming range->f5
namespace Go.AM
open Go.Proofs
open Tryz
attribute [local irreducible] AWN NS AWO AWR AWC DR DZ dQ f9 iter
set_option maxRecDepth 100000
set_option maxHeartbeats 40000000
variable {a0:Go.AM.ab} {a1:Go.AM.cX}
def ow (a0:ab) (a1:cX):Option (Bool×ab):=
 abJ (cf a1.cB 0 (WR ((a0.aT.length:Int)-1))) λr1=>bif !r1 then(some (false,a0)) else(bif eqB a1.a8 2 then(abJ (Bd a0 a1.cB) λr2=>some (true,r2)) else(bif eqB a1.a8 3 then(abJ (qy a0 a1.cB) λr3=>some (true,{r3.2 with jT:=WR (r3.2.jT+1)})) else(bif eqB a1.a8 4 then(bif leB 200 (a0.aT.length:Int) then(some (false,a0)) else(abJ (ix a0.aT a1.cB) λx4=>abJ (rj a0 x4) λr5=>some (true,r5))) else(some (true,a0)))))
instance Ci {r:Bool×ab}:FCV prog (ow a0 a1=some r) 98 (nI a0) [tP 200,.v (.agg (kM [.t,.t] (dV a1)))] (nI r.2) (.v (.c (.d false (.b r.1)))) []:=⟨λH=>by
 refine fV func98 ntmps98 ?_
 refine dI ?_
 refine aa H λr1 q1 H=>dA (ca (hF:=jg.h q1)) ?_
 refine wI ?_
 refine cC H ?_ ?_<;>intro H
 .cases H
  exact bj
 refine cC H ?_ ?_<;>intro H
 .refine aa H λr2 q2 H=>sA (cwu m0 [] 211 (Nm.h q2)) ?_
  cases H
  exact bj
 refine cC H ?_ ?_<;>intro H
 .refine aa H λr3 q3 H=>sA (cwu m0 [] 211 (zH.h q3)) ?_
  cases H
  exact bj
 refine cC H ?_ ?_<;>intro H
 .refine cC H ?_ ?_<;>intro H
  .cases H
   exact bj
  refine zI (f5 10) ?_
  refine aa H λx4 hx4 H=>zA (xwT hx4) ?_
  refine zA (oea (he:=dF _ hx4)) ?_
  refine aa H λr5 q5 H=>zB bC (fg rfl (cwu m0 [] 211 (Bf.h q5))) bC ?_
  cases H
  exact bj
 cases H
 exact bj⟩
def jZ (a0:ab) (a1:cX):Option (Bool×ab):=
 abJ (cf a1.cB 0 (WR ((a0.aw.length:Int)-1))) λr1=>bif !r1 then(some (false,a0)) else(bif eqB a1.a8 5 then(abJ (ix a0.aw a1.cB) λx2=>bif !eqB x2.bp 0 then(some (false,a0)) else(abJ (ix a0.aw a1.cB) λx3=>abJ (A7 x3) λr4=>abJ (gA a0 a1.cB r4) λr5=>some (true,r5))) else(bif eqB a1.a8 6 then(abJ (kZ a0.ev a1.bh) λr6=>abJ (bif !r6 then(some true) else(abJ (ix a0.aw a1.cB) λx8=>some (eqB a1.bh x8.bh))) λ(v7:Bool)=>bif v7 then(some (false,a0)) else(abJ (ix a0.aw a1.cB) λx9=>abJ (tU x9 a1.bh) λr10=>abJ (gA a0 a1.cB r10) λr11=>some (true,r11))) else(bif eqB a1.a8 7 then(abJ (ix a0.aw a1.cB) λx12=>bif !eqB x12.bp 2 then(some (false,a0)) else(abJ (ix a0.aw a1.cB) λx13=>abJ (wc x13) λr14=>abJ (ix a0.aw a1.cB) λx15=>some (true,{a0 with aw:=(a0.aw.set (a1.cB).toNat r14)}))) else(bif eqB a1.a8 8 then(abJ (ix a0.aA a1.cB) λx16=>abJ (pY x16 a1.a9) λr17=>bif !r17.2 then(some (false,a0)) else(abJ (ix a0.aA a1.cB) λx18=>some (true,{a0 with aA:=(a0.aA.set (a1.cB).toNat r17.1)}))) else(some (true,a0))))))
instance xP {r:Bool×ab}:FCV prog (jZ a0 a1=some r) 99 (nI a0) [tP 200,.v (.agg (kM [.t,.t] (dV a1)))] (nI r.2) (.v (.c (.d false (.b r.1)))) []:=⟨λH=>by
 refine fV func99 ntmps99 ?_
 refine aa H λr1 q1 H=>nA (ca (hF:=jg.h q1)) ?_
 refine cC H ?_ ?_<;>intro H
 .cases H
  exact bj
 refine cC H ?_ ?_<;>intro H
 .refine aa H λx2 hx2 H=>nA (xwT hx2) ?_
  refine nA (oe (he:=dF _ hx2)) ?_
  refine cC H ?_ ?_<;>intro H
  .cases H
   exact bj
  refine aa H λx3 hx3 H=>nA (xwT hx3) ?_
  refine nA (oea (he:=dF _ hx3)) ?_
  refine aa H λr4 q4 H=>nA (ca (hF:=Nh.h q4)) ?_
  refine aa H λr5 q5 H=>bL (bv (o:=211)) ?_
  refine bL (bv (o:=212)) ?_
  refine bL (bv (o:=213)) ?_
  refine bL (bH (k:=41)) ?_
  refine sA (cwu m0 [] 214 (lD.h q5)) ?_
  cases H
  exact bj
 refine cC H ?_ ?_<;>intro H
 .refine dI ?_
  refine aa H λr6 q6 H=>dA (ca (hF:=yY.h q6)) ?_
  refine aa H λv7 Hj H=>pQ ⟨[(0,tP 200),(3,tP 210),(5,tI a1.cB),(65,tB v7)],(nI a0++[(210,.var 50 (kM [.t,.t] (dV a1)))]),211⟩ ?_ ?_
  .have H:=Hj
   refine wI ?_
   refine dC H ?_ ?_<;>intro H
   .refine wI ?_
    exact ai H
   refine aa H λx8 hx8 H=>dG (xwT hx8) ?_
   refine dG (oe (he:=dF _ hx8)) ?_
   refine wI ?_
   exact ai H
  refine wI ?_
  refine cC H ?_ ?_<;>intro H
  .refine wI ?_
   cases H
   exact bj
  refine zI (f5 13) ?_
  refine aa H λx9 hx9 H=>zA (xwT hx9) ?_
  refine zA (oea (he:=dF _ hx9)) ?_
  refine aa H λr10 q10 H=>zA (ca (hF:=Gy.h q10)) ?_
  refine aa H λr11 q11 H=>zB (am (bv (o:=211)) (am (bv (o:=212)) (am (bv (o:=213)) (bH (k:=77))))) (fg rfl (cwu m0 [] 214 (lD.h q11))) bC ?_
  cases H
  exact bj
 refine cC H ?_ ?_<;>intro H
 .refine aa H λx12 hx12 H=>nA (xwT hx12) ?_
  refine nA (oe (he:=dF _ hx12)) ?_
  refine cC H ?_ ?_<;>intro H
  .cases H
   exact bj
  refine zI (f5 15) ?_
  refine aa H λx13 hx13 H=>zA (xwT hx13) ?_
  refine zA (oea (he:=dF _ hx13)) ?_
  refine aa H λr14 q14 H=>zA (ca (hF:=IS.h q14)) ?_
  refine aa H λx15 hx15 H=>zA (xwT hx15) ?_
  refine zB (am (bv (o:=211)) (am (bv (o:=212)) (bH (k:=102)))) (fg rfl (soT (enc:=cF) (a':=r14) hx15)) bC ?_
  cases H
  refine bA ((wB 190 ((a0.aw.set (a1.cB).toNat r14).length))) ?_
  exact bj
 refine cC H ?_ ?_<;>intro H
 .refine zI (f5 16) ?_
  refine aa H λx16 hx16 H=>zA (xwT hx16) ?_
  refine zA (oea (he:=dF _ hx16)) ?_
  refine aa H λr17 q17 H=>zA (ca (hF:=Dj.h q17)) ?_
  refine wA (spx 100664) ?_
  refine cC H ?_ ?_<;>intro H
  .cases H
   exact bj
  refine zI (f5 8) ?_
  refine aa H λx18 hx18 H=>zA (xwT hx18) ?_
  refine zB (am (bv (o:=211)) (am (bv (o:=212)) (am (bv (o:=213)) (bH (k:=126))))) (fg rfl (soT (enc:=bS) (a':=r17.1) hx18)) bC ?_
  cases H
  refine bA ((wB 191 ((a0.aA.set (a1.cB).toNat r17.1).length))) ?_
  exact bj
 cases H
 exact bj⟩
def tZ (a0:ab) (a1:cX):Option (Bool×ab):=
 bif eqB a1.a8 1 then(abJ (O9 a0) λr1=>some (r1.1,r1.2)) else(abJ (bif eqB a1.a8 2 then(some (eqB a1.a8 2)) else(abJ (bif eqB a1.a8 3 then(some (eqB a1.a8 3)) else(some (eqB a1.a8 4))) λ(v3:Bool)=>some v3)) λ(v2:Bool)=>bif v2 then(abJ (ow a0 a1) λr4=>some (r4.1,r4.2)) else(abJ (bif eqB a1.a8 5 then(some (eqB a1.a8 5)) else(abJ (bif eqB a1.a8 6 then(some (eqB a1.a8 6)) else(abJ (bif eqB a1.a8 7 then(some (eqB a1.a8 7)) else(some (eqB a1.a8 8))) λ(v7:Bool)=>some v7)) λ(v6:Bool)=>some v6)) λ(v5:Bool)=>bif v5 then(abJ (jZ a0 a1) λr8=>some (r8.1,r8.2)) else(abJ (bif eqB a1.a8 9 then(some (eqB a1.a8 9)) else(some (eqB a1.a8 10))) λ(v9:Bool)=>bif v9 then(abJ (rH a0 a1) λr10=>some (r10.1,r10.2)) else(abJ (bif eqB a1.a8 11 then(some (eqB a1.a8 11)) else(some (eqB a1.a8 12))) λ(v11:Bool)=>bif v11 then(abJ (ox a0 a1) λr12=>some (r12.1,r12.2)) else(bif eqB a1.a8 13 then(abJ (IX a0 a1.bD) λr13=>some (r13.1,r13.2)) else(some (false,a0)))))))
instance GG {r:Bool×ab}:FCV prog (tZ a0 a1=some r) 38 (nI a0) [tP 200,.v (.agg (kM [.t,.t] (dV a1)))] (nI r.2) (.v (.c (.d false (.b r.1)))) []:=⟨λH=>by
 refine fV func38 ntmps38 ?_
 refine cC H ?_ ?_<;>intro H
 .refine aa H λr1 q1 H=>sA (cwu m0 [] 211 (XE.h q1)) ?_
  cases H
  exact bj
 refine aa H λv2 Hj H=>jA ⟨[(0,tP 200),(3,tP 210),(6,tI a1.a8),(11,tB v2)],(nI a0++[(210,.var 50 (kM [.t,.t] (dV a1)))]),211⟩ ?_ ?_
 .refine cC Hj ?_ ?_<;>intro H
  .exact ai H
  refine aa H λv3 Hj H=>jA ⟨[(0,tP 200),(3,tP 210),(6,tI a1.a8),(11,tB v3)],(nI a0++[(210,.var 50 (kM [.t,.t] (dV a1)))]),211⟩ ?_ ?_
  .exact az Hj
  exact ai H
 refine cC H ?_ ?_<;>intro H
 .refine aa H λr4 q4 H=>sA (cwu m0 [] 211 (Ci.h q4)) ?_
  cases H
  exact bj
 refine aa H λv5 Hj H=>jA ⟨[(0,tP 200),(3,tP 210),(6,tI a1.a8),(18,tB v5)],(nI a0++[(210,.var 50 (kM [.t,.t] (dV a1)))]),211⟩ ?_ ?_
 .refine cC Hj ?_ ?_<;>intro H
  .exact ai H
  refine aa H λv6 Hj H=>jA ⟨[(0,tP 200),(3,tP 210),(6,tI a1.a8),(18,tB v6)],(nI a0++[(210,.var 50 (kM [.t,.t] (dV a1)))]),211⟩ ?_ ?_
  .refine cC Hj ?_ ?_<;>intro H
   .exact ai H
   refine aa H λv7 Hj H=>jA ⟨[(0,tP 200),(3,tP 210),(6,tI a1.a8),(18,tB v7)],(nI a0++[(210,.var 50 (kM [.t,.t] (dV a1)))]),211⟩ ?_ ?_
   .exact az Hj
   exact ai H
  exact ai H
 refine cC H ?_ ?_<;>intro H
 .refine aa H λr8 q8 H=>sA (cwu m0 [] 211 (xP.h q8)) ?_
  cases H
  exact bj
 refine aa H λv9 Hj H=>jA ⟨[(0,tP 200),(3,tP 210),(6,tI a1.a8),(26,tB v9)],(nI a0++[(210,.var 50 (kM [.t,.t] (dV a1)))]),211⟩ ?_ ?_
 .exact az Hj
 refine cC H ?_ ?_<;>intro H
 .refine aa H λr10 q10 H=>sA (cwu m0 [] 211 (EU.h q10)) ?_
  cases H
  exact bj
 refine aa H λv11 Hj H=>jA ⟨[(0,tP 200),(3,tP 210),(6,tI a1.a8),(32,tB v11)],(nI a0++[(210,.var 50 (kM [.t,.t] (dV a1)))]),211⟩ ?_ ?_
 .exact az Hj
 refine cC H ?_ ?_<;>intro H
 .refine aa H λr12 q12 H=>sA (cwu m0 [] 211 (Cj.h q12)) ?_
  cases H
  exact bj
 refine cC H ?_ ?_<;>intro H
 .refine aa H λr13 q13 H=>sA (cwu m0 [] 211 (Uk.h q13)) ?_
  cases H
  exact bj
 cases H
 exact bj⟩
def qk (a0:ab) (a1:cX):Option (ab×Bool):=
 abJ (oy a0) λr1=>abJ (ko a0) λr2=>abJ (bif !r2 then(some (true,r1)) else(abJ (tZ r1 a1) λr15=>some (!r15.1,r15.2))) λ((v3,v14):Bool×ab)=>bif v3 then(abJ (oy a0) λr16=>some (r16,false)) else(some (v14,true))
instance uO {r:ab×Bool}:FCV prog (qk a0 a1=some r) 10 [] [.v (.agg (kM [.t,.t,.t,.t,.t] (bw a0))),.v (.agg (kM [.t,.t] (dV a1)))] [] (.tup [.agg (kM [.t,.w 210,.w 211,.w 212,.w 213] (bw r.1)),.c (.d false (.b r.2))]) [(210,w67 r.1.aw),(211,w93 r.1.aA),(212,YH r.1.bG),(213,w48 r.1.aT)]:=⟨λH=>by
 refine fV func10 ntmps10 ?_
 refine aa H λr1 q1 H=>nA (ca (hF:=xU.h q1)) ?_
 refine aa H λr2 q2 H=>nA (ca (hF:=A6.h q2)) ?_
 obtain⟨⟨v3,v14⟩,Hj,H⟩:=ob H
 refine jR ⟨[(2,tP 210),(4,tP 212),(6,tP 218),(16,tB v3)],(oM [.t,.w 214,.w 215,.w 216,.w 217] 218 34 (bw v14)++[(210,.var 34 (kM [.t,.t,.t,.t,.t] (bw a0))),(212,.var 34 (kM [.z,.z,.z,.z,.z] (bw {ea with ev:=(⟨[]⟩:aS)})))]),219⟩ ?_ ?_
 .refine gC Hj ?_ ?_<;>intro H
  .cases H
   refine am (bv (o:=213)) ?_
   refine am (bH (k:=8)) ?_
   refine am (de (o:=218)) ?_
   exact wo
  refine aa H λr15 q15 H=>bL (bv (o:=213)) ?_
  refine bL (bH (k:=8)) ?_
  refine bL (de (o:=218)) ?_
  refine sG (cwu [(190,214),(191,215),(192,216),(193,217),(200,218)] [] 219 (GG.h q15)) ?_
  exact ai H
 refine cC H ?_ ?_<;>intro H
 .refine aa H λr16 q16 H=>nA (ca (hF:=xU.h q16)) ?_
  cases H
  refine bA ((bv (o:=219))) ?_
  refine bA ((bH (k:=18))) ?_
  refine bA ((de (o:=212))) ?_
  refine bA (wS 220 210) ?_
  refine bA (wS 221 211) ?_
  refine bA (wS 222 212) ?_
  refine bA (wS 223 213) ?_
  exact bj
 cases H
 refine bA (wS 214 210) ?_
 refine bA (wS 215 211) ?_
 refine bA (wS 216 212) ?_
 refine bA (wS 217 213) ?_
 exact bj⟩
def nV (a0:ab) (a1:cX):Int->Option (cr (Int) (Bool))
 |v2=>bif ltB v2 (a0.aT.length:Int) then(abJ (ix a0.aT v2) λx3=>abJ (pZ a1.bD x3) λr4=>bif r4 then(dn (some true)) else(some (.next (WR (v2+1))))) else(dn (bif a1.bD.dZ then(abJ (ix a0.aw a1.bD.bm) λx5=>abJ (px x5 a1.bD) λr6=>some r6) else(bif a1.bD.eG then(abJ (ix a0.aA a1.bD.bm) λx7=>abJ (lb x7 a1.bD.bg) λr8=>some r8) else(abJ (ix a0.aw a1.bD.bm) λx9=>abJ (jo x9 a1.bD.bg) λr10=>some r10))))
def qo (a0:ab) (a1:cX):Option Bool:=
 bif !eqB a1.a8 13 then(some true) else(abJ (qk a0 a1) λr1=>bif !r1.2 then(some true) else(iter (nV a0 a1) FU 0))
theorem Gw {r:Bool} (H:qo a0 a1=some r):FnV prog 21 [] [.v (.agg (kM [.t,.t,.t,.t,.t] (bw a0))),.v (.agg (kM [.t,.t] (dV a1)))] [] (.v (.c (.d false (.b r)))) []:=by
 refine fV func21 ntmps21 ?_
 refine cC H ?_ ?_<;>intro H
 .cases H
  exact bj
 refine aa H λr1 q1 H=>sA (cwu [] [(210,212),(211,213),(212,214),(213,215)] 216 (uO.h q1)) ?_
 refine cC H ?_ ?_<;>intro H
 .cases H
  exact bj
 refine iT H (λq=>⟨[(2,tP 210),(7,tP 217),(24,.v (.c (.d true (.l (a0.aT.map dB))))),(25,tI (a0.aT.length:Int)),(26,tI q)],[(210,.var 34 (kM [.t,.t,.t,.t,.t] (bw a0))),(217,.var 48 (kM [.t] (jE a1.bD)))],218⟩) ?_
 rintro v2 o H
 refine ad ?_
 refine cC H ?_ ?_<;>intro H
 .refine aa H λx3 hx3 H=>nA (xdT (enc:=dB) hx3) ?_
  refine aa H λr4 q4 H=>nA (ca (hF:=Dn.h q4)) ?_
  refine cC H ?_ ?_<;>intro H
  .refine aR H λH=>?_
   cases H
   exact bj
  exact aN H
 refine aR H λH=>?_
 refine cC H ?_ ?_<;>intro H
 .refine dI ?_
  refine aa H λx5 hx5 H=>dA (xdT (enc:=cF) hx5) ?_
  refine aa H λr6 q6 H=>dA (ca (hF:=Ak.h q6)) ?_
  refine wI ?_
  cases H
  exact bj
 refine cC H ?_ ?_<;>intro H
 .refine dI ?_
  refine aa H λx7 hx7 H=>dA (xdT (enc:=bS) hx7) ?_
  refine aa H λr8 q8 H=>dA (ca (hF:=zt.h q8)) ?_
  refine wI ?_
  cases H
  exact bj
 refine dI ?_
 refine aa H λx9 hx9 H=>dA (xdT (enc:=cF) hx9) ?_
 refine aa H λr10 q10 H=>dA (ca (hF:=xp.h q10)) ?_
 refine wI ?_
 cases H
 exact bj
theorem Gv {r:Bool} (H:qo a0 a1=some r):Fn prog 21 [.agg (fG a0),.agg (yR a1)] [.c (.d (.b r))]:=(Gw H).pure
end Go.AM
