/- A part. -/
import Derived.Test.YtcfhabdgiieejaaGreatS10
set_option linter.unusedVariables false
open Option renaming bind->abJ
open List renaming range->f5
namespace Go.AM
open Go.Proofs
open Tryz
attribute [local irreducible] AWN NS AWO AWR AWC DR DZ dQ f9 iter
set_option maxRecDepth 100000
set_option maxHeartbeats 40000000
def uz (a0:ab) (a1:Int):Option ab:=
 abJ (yG a0 a1) λr1=>abJ (vy r1.2 r1.1.bh) λr2=>abJ (bif !r2 then(some {r1.2 with jT:=WR (r1.2.jT+1)}) else(abJ (bif r1.1.eG then(bif !r1.1.dZ then(some (eqB r1.1.bg.bh r1.1.bh)) else(some false)) else(some false)) λ(v14:Bool)=>abJ (bif v14 then(abJ (ix r1.2.aA r1.1.bm) λx26=>abJ (oW x26 r1.1.bg) λr27=>abJ (ix r1.2.aA r1.1.bm) λx28=>abJ (lR {r1.2 with aA:=(r1.2.aA.set (r1.1.bm).toNat r27.aU)} r1.1.bm false r27.dy) λr29=>some r29) else(abJ (bif r1.1.eG then(some r1.2) else(abJ (ix r1.2.aw r1.1.bm) λx41=>abJ (bif !eqB x41.bh r1.1.bh then(some {r1.2 with jT:=WR (r1.2.jT+1)}) else(abJ (bif r1.1.dZ then(abJ (ix r1.2.aw r1.1.bm) λx64=>abJ (p8 x64 r1.1.co) λr65=>abJ (jk r1.2 r1.1.bm r65) λr66=>some r66) else(abJ (ix r1.2.aw r1.1.bm) λx67=>abJ (oV x67 r1.1.bg) λr68=>abJ (jk r1.2 r1.1.bm r68) λr69=>some r69)) λ(v63:ab)=>some v63)) λ(v52:ab)=>some v52)) λ(v40:ab)=>some v40)) λ(v25:ab)=>some v25)) λ(v13:ab)=>some v13
instance Ha {a0:ab} {a1:Int} {r:ab}:FCV prog (uz a0 a1=some r) 260 (nS a0) [tP 200,tI a1] (nS r) (.tup []) []:=⟨λH=>by
 refine fV func260 ntmps260 ?_
 refine aa H λr1 q1 H=>sA (cwu m0 [] 210 (Ge.h q1)) ?_
 refine dI ?_
 refine aa H λr2 q2 H=>dA (ca (hF:=CZ.h q2)) ?_
 refine wI ?_
 refine aa H λv13 Hj H=>jA ⟨[],(nS v13),211⟩ ?_ ?_
 .refine cC Hj ?_ ?_<;>intro H
  .exact ai H
  refine aa H λv14 Hj H=>jR ⟨[(0,tP 200),(4,tP 210),(5,tI r1.1.bm),(41,tB v14)],(nS r1.2++[(210,.var 48 (kM [.t] (jE r1.1)))]),211⟩ ?_ ?_
  .exact az Hj
  refine aa H λv25 Hj H=>jA ⟨[],(nS v25),211⟩ ?_ ?_
  .refine cC Hj ?_ ?_<;>intro H
   .refine zI (f5 12) ?_
    refine aa H λx26 hx26 H=>zA (qL hx26) ?_
    refine zA (Jw (he:=dF _ hx26)) ?_
    refine aa H λr27 q27 H=>zA (ca (hF:=Cy.h q27)) ?_
    refine wA (spx 100642) ?_
    refine zI (f5 9) ?_
    refine aa H λx28 hx28 H=>zA (qL hx28) ?_
    refine zB (lU 191 (hne:=ya (enc:=bS) hx28)) (fg rfl (soT (enc:=bS) (a':=r27.aU) hx28)) bC ?_
    refine aa H λr29 q29 H=>bL (bv (o:=211)) ?_
    refine bL (bH (k:=78)) ?_
    refine bL (d8 191) ?_
    refine bL (wB 191 ((r1.2.aA.set (r1.1.bm).toNat r27.aU).length)) ?_
    refine sA (cwu m0 [] 213 (uZ.h q29)) ?_
    exact ai H
   refine aa H λv40 Hj H=>jA ⟨[],(nS v40),211⟩ ?_ ?_
   .refine cC Hj ?_ ?_<;>intro H
    .exact ai H
    refine dI ?_
    refine aa H λx41 hx41 H=>dA (qL hx41) ?_
    refine dA (oen (he:=dF _ hx41)) ?_
    refine wI ?_
    refine aa H λv52 Hj H=>jA ⟨[],(nS v52),211⟩ ?_ ?_
    .refine cC Hj ?_ ?_<;>intro H
     .exact ai H
     refine aa H λv63 Hj H=>jA ⟨[],(nS v63),211⟩ ?_ ?_
     .refine cC Hj ?_ ?_<;>intro H
      .refine zI (f5 13) ?_
       refine aa H λx64 hx64 H=>zA (qL hx64) ?_
       refine zA (Jw (he:=dF _ hx64)) ?_
       refine aa H λr65 q65 H=>zA (ca (hF:=Dr.h q65)) ?_
       refine aa H λr66 q66 H=>zB (am (bv (o:=211)) (am (bv (o:=212)) (bH (k:=117)))) (fg rfl (cwu m0 [] 213 (o9.h q66))) bC ?_
       exact ai H
      refine zI (f5 13) ?_
      refine aa H λx67 hx67 H=>zA (qL hx67) ?_
      refine zA (Jw (he:=dF _ hx67)) ?_
      refine aa H λr68 q68 H=>zA (ca (hF:=Cw.h q68)) ?_
      refine aa H λr69 q69 H=>zB (am (bv (o:=211)) (bH (k:=23))) (fg rfl (cwu m0 [] 212 (o9.h q69))) bC ?_
      exact ai H
     exact ai H
    exact ai H
   exact ai H
  exact ai H
 cases H
 exact nT⟩
def wR (a0:ab) (a1:cX):Option (Bool×ab):=
 abJ (du a1.cB 0 (WR ((a0.aT.length:Int)-1))) λr1=>bif !r1 then(some (false,a0)) else(bif eqB a1.a8 2 then(abJ (uz a0 a1.cB) λr2=>some (true,r2)) else(bif eqB a1.a8 3 then(abJ (yG a0 a1.cB) λr3=>some (true,{r3.2 with jT:=WR (r3.2.jT+1)})) else(bif leB 200 (a0.aT.length:Int) then(some (false,a0)) else(abJ (ix a0.aT a1.cB) λx4=>abJ (gS a0 x4) λr5=>some (true,r5)))))
instance JZ {a0:ab} {a1:cX} {r:Bool×ab}:FCV prog (wR a0 a1=some r) 158 (nS a0) [tP 200,.v (.agg (kM [.t,.t] (dV a1)))] (nS r.2) (.v (.c (.d false (.b r.1)))) []:=⟨λH=>by
 refine fV func158 ntmps158 ?_
 refine dI ?_
 refine aa H λr1 q1 H=>dA (ca (hF:=rZ.h q1)) ?_
 refine wI ?_
 refine cC H ?_ ?_<;>intro H
 .cases H
  exact bj
 refine cC H ?_ ?_<;>intro H
 .refine aa H λr2 q2 H=>sA (cwu m0 [] 211 (Ha.h q2)) ?_
  cases H
  exact bj
 refine cC H ?_ ?_<;>intro H
 .refine aa H λr3 q3 H=>sA (cwu m0 [] 211 (Ge.h q3)) ?_
  cases H
  exact bj
 refine cC H ?_ ?_<;>intro H
 .cases H
  exact bj
 refine zI (f5 10) ?_
 refine aa H λx4 hx4 H=>zA (qL hx4) ?_
 refine zA (Jw (he:=dF _ hx4)) ?_
 refine aa H λr5 q5 H=>zB bC (fg rfl (cwu m0 [] 211 (tq.h q5))) bC ?_
 cases H
 exact bj⟩
def DN (a0:ab) (a1:cX):Option (Bool×ab):=
 abJ (du a1.cB 0 (WR ((a0.aw.length:Int)-1))) λr1=>bif !r1 then(some (false,a0)) else(abJ (ix a0.aw a1.cB) λx2=>bif eqB a1.a8 5 then(bif !eqB x2.bp 0 then(some (false,a0)) else(abJ (yw x2) λr3=>abJ (jk a0 a1.cB r3) λr4=>some (true,r4))) else(bif eqB a1.a8 6 then(abJ (bif eqB a1.bh x2.bh then(some true) else(abJ (du a1.bh 0 (WR ((a0.ev.bb.length:Int)-1))) λr6=>some (!r6))) λ(v5:Bool)=>bif v5 then(some (false,a0)) else(abJ (ue x2 a1.bh) λr7=>abJ (jk a0 a1.cB r7) λr8=>some (true,r8))) else(bif eqB a1.a8 7 then(bif !eqB x2.bp 2 then(some (false,a0)) else(abJ (wx x2) λr9=>abJ (ix a0.aw a1.cB) λx10=>some (true,{a0 with aw:=(a0.aw.set (a1.cB).toNat r9)}))) else(abJ (ix a0.aA a1.cB) λx11=>abJ (mO x11 a1.a9) λr12=>abJ (ix a0.aA a1.cB) λx13=>some (r12.2,{a0 with aA:=(a0.aA.set (a1.cB).toNat r12.1)})))))
instance R4 {a0:ab} {a1:cX} {r:Bool×ab}:FCV prog (DN a0 a1=some r) 159 (nS a0) [tP 200,.v (.agg (kM [.t,.t] (dV a1)))] (nS r.2) (.v (.c (.d false (.b r.1)))) []:=⟨λH=>by
 refine fV func159 ntmps159 ?_
 refine aa H λr1 q1 H=>nA (ca (hF:=rZ.h q1)) ?_
 refine cC H ?_ ?_<;>intro H
 .cases H
  exact bj
 refine aa H λx2 hx2 H=>bL (lU 190 (hne:=ya (enc:=cF) hx2)) ?_
 refine nA (xwT hx2) ?_
 refine nA (oea (he:=dF _ hx2)) ?_
 refine cC H ?_ ?_<;>intro H
 .refine cC H ?_ ?_<;>intro H
  .cases H
   refine bA ((d8 190)) ?_
   exact bj
  refine aa H λr3 q3 H=>nA (ca (hF:=FF.h q3)) ?_
  refine aa H λr4 q4 H=>bL (bv (o:=212)) ?_
  refine bL (bH (k:=58)) ?_
  refine bL (d8 190) ?_
  refine sA (cwu m0 [] 213 (o9.h q4)) ?_
  cases H
  exact bj
 refine cC H ?_ ?_<;>intro H
 .refine dI ?_
  refine aa H λv5 Hj H=>pQ ⟨[(0,tP 200),(3,tP 210),(5,tI a1.cB),(6,tP 211),(79,tB v5)],(oM [.t,.w 190,.n 191,.n 192,.n 193] 200 34 (bw a0)++[(210,.var 50 (kM [.t,.t] (dV a1))),(211,.var 67 (kM [.t,.t] (gD x2)))]),212⟩ ?_ ?_
  .have H:=Hj
   refine wI ?_
   refine dC H ?_ ?_<;>intro H
   .refine wI ?_
    exact ai H
   refine aa H λr6 q6 H=>dG (ca (hF:=rZ.h q6)) ?_
   refine wI ?_
   exact ai H
  refine wI ?_
  refine cC H ?_ ?_<;>intro H
  .refine wI ?_
   cases H
   refine bA ((d8 190)) ?_
   exact bj
  refine aa H λr7 q7 H=>nA (ca (hF:=G4.h q7)) ?_
  refine aa H λr8 q8 H=>bL (bv (o:=212)) ?_
  refine bL (bH (k:=85)) ?_
  refine bL (d8 190) ?_
  refine sA (cwu m0 [] 213 (o9.h q8)) ?_
  refine wI ?_
  cases H
  exact bj
 refine cC H ?_ ?_<;>intro H
 .refine cC H ?_ ?_<;>intro H
  .cases H
   refine bA ((d8 190)) ?_
   exact bj
  refine zI (f5 9) ?_
  refine aa H λr9 q9 H=>zA (ca (hF:=JL.h q9)) ?_
  refine aa H λx10 hx10 H=>zA (xwT hx10) ?_
  refine zB (am (bv (o:=212)) (am (bv (o:=213)) (bH (k:=98)))) (fg rfl (soT (enc:=cF) (a':=r9) hx10)) bC ?_
  cases H
  refine bA ((d8 190)) ?_
  refine bA ((wB 190 ((a0.aw.set (a1.cB).toNat r9).length))) ?_
  exact bj
 refine zI (f5 16) ?_
 refine aa H λx11 hx11 H=>zA (qL hx11) ?_
 refine zA (Jw (he:=dF _ hx11)) ?_
 refine aa H λr12 q12 H=>zA (ca (hF:=xh.h q12)) ?_
 refine wA (spx 100644) ?_
 refine zI (f5 8) ?_
 refine aa H λx13 hx13 H=>zA (qL hx13) ?_
 refine zB (am (bv (o:=212)) (am (bv (o:=213)) (am (bv (o:=214)) (am (bH (k:=47)) (lU 191 (hne:=ya (enc:=bS) hx13)))))) (fg rfl (soT (enc:=bS) (a':=r12.1) hx13)) bC ?_
 cases H
 refine bA ((d8 190)) ?_
 refine bA ((d8 191)) ?_
 refine bA ((wB 191 ((a0.aA.set (a1.cB).toNat r12.1).length))) ?_
 exact bj⟩
def zj (a0:ab) (a1:cX):Option (Bool×ab):=
 bif eqB a1.a8 1 then(abJ (BP a0) λr1=>some (r1.1,r1.2)) else(abJ (bif eqB a1.a8 2 then(some (eqB a1.a8 2)) else(abJ (bif eqB a1.a8 3 then(some (eqB a1.a8 3)) else(some (eqB a1.a8 4))) λ(v3:Bool)=>some v3)) λ(v2:Bool)=>bif v2 then(abJ (wR a0 a1) λr4=>some (r4.1,r4.2)) else(abJ (bif eqB a1.a8 5 then(some (eqB a1.a8 5)) else(abJ (bif eqB a1.a8 6 then(some (eqB a1.a8 6)) else(abJ (bif eqB a1.a8 7 then(some (eqB a1.a8 7)) else(some (eqB a1.a8 8))) λ(v7:Bool)=>some v7)) λ(v6:Bool)=>some v6)) λ(v5:Bool)=>bif v5 then(abJ (DN a0 a1) λr8=>some (r8.1,r8.2)) else(abJ (bif eqB a1.a8 9 then(some (eqB a1.a8 9)) else(some (eqB a1.a8 10))) λ(v9:Bool)=>bif v9 then(abJ (BL a0 a1.cB (eqB a1.a8 10)) λr10=>some (r10.1,r10.2)) else(abJ (bif eqB a1.a8 11 then(some (eqB a1.a8 11)) else(some (eqB a1.a8 12))) λ(v11:Bool)=>bif v11 then(abJ (wT a0 a1.cB (eqB a1.a8 12)) λr12=>some (r12.1,r12.2)) else(bif eqB a1.a8 13 then(abJ (kh a0 a1.bD) λr13=>bif !r13 then(some (false,a0)) else(abJ (gS a0 a1.bD) λr14=>some (true,r14))) else(some (false,a0)))))))
instance Mc {a0:ab} {a1:cX} {r:Bool×ab}:FCV prog (zj a0 a1=some r) 82 (nS a0) [tP 200,.v (.agg (kM [.t,.t] (dV a1)))] (nS r.2) (.v (.c (.d false (.b r.1)))) []:=⟨λH=>by
 refine fV func82 ntmps82 ?_
 refine cC H ?_ ?_<;>intro H
 .refine aa H λr1 q1 H=>sA (cwu m0 [] 211 (Oa.h q1)) ?_
  cases H
  exact bj
 refine aa H λv2 Hj H=>jA ⟨[(0,tP 200),(3,tP 210),(6,tI a1.a8),(11,tB v2)],(nS a0++[(210,.var 50 (kM [.t,.t] (dV a1)))]),211⟩ ?_ ?_
 .refine cC Hj ?_ ?_<;>intro H
  .exact ai H
  refine aa H λv3 Hj H=>jA ⟨[(0,tP 200),(3,tP 210),(6,tI a1.a8),(11,tB v3)],(nS a0++[(210,.var 50 (kM [.t,.t] (dV a1)))]),211⟩ ?_ ?_
  .exact az Hj
  exact ai H
 refine cC H ?_ ?_<;>intro H
 .refine aa H λr4 q4 H=>sA (cwu m0 [] 211 (JZ.h q4)) ?_
  cases H
  exact bj
 refine aa H λv5 Hj H=>jA ⟨[(0,tP 200),(3,tP 210),(6,tI a1.a8),(18,tB v5)],(nS a0++[(210,.var 50 (kM [.t,.t] (dV a1)))]),211⟩ ?_ ?_
 .refine cC Hj ?_ ?_<;>intro H
  .exact ai H
  refine aa H λv6 Hj H=>jA ⟨[(0,tP 200),(3,tP 210),(6,tI a1.a8),(18,tB v6)],(nS a0++[(210,.var 50 (kM [.t,.t] (dV a1)))]),211⟩ ?_ ?_
  .refine cC Hj ?_ ?_<;>intro H
   .exact ai H
   refine aa H λv7 Hj H=>jA ⟨[(0,tP 200),(3,tP 210),(6,tI a1.a8),(18,tB v7)],(nS a0++[(210,.var 50 (kM [.t,.t] (dV a1)))]),211⟩ ?_ ?_
   .exact az Hj
   exact ai H
  exact ai H
 refine cC H ?_ ?_<;>intro H
 .refine aa H λr8 q8 H=>sA (cwu m0 [] 211 (R4.h q8)) ?_
  cases H
  exact bj
 refine aa H λv9 Hj H=>jA ⟨[(0,tP 200),(3,tP 210),(6,tI a1.a8),(26,tB v9)],(nS a0++[(210,.var 50 (kM [.t,.t] (dV a1)))]),211⟩ ?_ ?_
 .exact az Hj
 refine cC H ?_ ?_<;>intro H
 .refine aa H λr10 q10 H=>sA (cwu m0 [] 211 (N7.h q10)) ?_
  cases H
  exact bj
 refine aa H λv11 Hj H=>jA ⟨[(0,tP 200),(3,tP 210),(6,tI a1.a8),(36,tB v11)],(nS a0++[(210,.var 50 (kM [.t,.t] (dV a1)))]),211⟩ ?_ ?_
 .exact az Hj
 refine cC H ?_ ?_<;>intro H
 .refine aa H λr12 q12 H=>sA (cwu m0 [] 211 (J0.h q12)) ?_
  cases H
  exact bj
 refine cC H ?_ ?_<;>intro H
 .refine dI ?_
  refine aa H λr13 q13 H=>dA (ca (hF:=Gc.h q13)) ?_
  refine wI ?_
  refine cC H ?_ ?_<;>intro H
  .cases H
   exact bj
  refine aa H λr14 q14 H=>sA (cwu m0 [] 211 (tq.h q14)) ?_
  cases H
  exact bj
 cases H
 exact bj⟩
def Gd:(Int×List cX×bk×ab)->Option (cr (Int×List cX×bk×ab) (List cX×bk×ab))
 |(v4,v8,v19,v20)=>bif ltB 0 v4 then(abJ (BM v19 v20) λr51=>bif da 224 (v8++[r51.1]).length then(abJ (yF v20) λr52=>abJ (zj r52 r51.1) λr53=>abJ (bif r53.1 then(some r53.2) else(some v20)) λ(v64:ab)=>some (.next (WR (v4-1),(v8++[r51.1]),r51.2,v64))) else none) else(some (.done (v8,v19,v20)))
def BN (a0:bk) (a1:Int):Option (ab×List cX×ab×bk):=
 abJ (BK a0) λr1=>abJ (yF r1.1) λr2=>abJ (cH r1.2 a1) λr3=>abJ (iter (Gd) FU (WR (3+r3.1),([]:List cX),r3.2,r2)) λ((v38,v49,v50):List cX×bk×ab)=>some (r1.1,v38,v50,v49)
theorem R5 {a0:bk} {a1:Int} {r:ab×List cX×ab×bk} (H:BN a0 a1=some r):FnW prog 30 (.var 125 (kM [.f] (cj a0))) [tP 200,tI a1] (.var 125 (kM [.f] (cj r.2.2.2))) [.agg (qM [.d,.d,.d,.d,.d] (bw r.1)),.c (.own 50 25 (r.2.1.map yR) r.2.1.length),.agg (qM [.d,.d,.d,.d,.d] (bw r.2.2.1))]:=by
 refine fW func30 ntmps30 ?_
 refine aa H λr1 q1 H=>sA (cwv [(200,200)] [(210,212),(211,213),(212,214),(213,215)] 216 (RX.h q1)) ?_
 refine aa H λr2 q2 H=>bL (fx 212) ?_
 refine bL (fx 213) ?_
 refine bL (fx 214) ?_
 refine bL (fx 215) ?_
 refine sA (cwv [] [(210,217),(211,218),(212,219),(213,220)] 221 (F9.h q2)) ?_
 refine aa H λr3 q3 H=>sA (cw (o:=200) (cm q3)) ?_
 obtain⟨⟨v38,v49,v50⟩,Hj,H⟩:=ob H
 refine jB ⟨[(4,tP 210),(6,tP 211),(7,tP 216),(8,tP 221),(9,.v (.c (.w 222 v38.length)))],[(200,.var 125 (kM [.f] (cj v49))),(210,.var 34 (kM [.z,.z,.z,.z,.z] (bw {ea with ev:=(⟨[]⟩:aS)}))),(211,.var 34 (kM [.z,.z,.z,.z,.z] (bw {ea with ev:=(⟨[]⟩:aS)}))),(216,.var 34 (kM [.t,.t,.t,.t,.t] (bw r1.1))),(221,.var 34 (kM [.t,.t,.t,.t,.t] (bw v50))),(222,w50 v38)],223⟩ ?_ ?_
 .refine iT Hj (λq=>⟨[(0,tP 200),(4,tP 210),(6,tP 211),(7,tP 216),(8,tP 221),(9,.v (.c (.w 222 q.2.1.length))),(10,tI q.1)],[(200,.var 125 (kM [.f] (cj q.2.2.1))),(210,.var 34 (kM [.z,.z,.z,.z,.z] (bw {ea with ev:=(⟨[]⟩:aS)}))),(211,.var 34 (kM [.z,.z,.z,.z,.z] (bw {ea with ev:=(⟨[]⟩:aS)}))),(216,.var 34 (kM [.t,.t,.t,.t,.t] (bw r1.1))),(221,.var 34 (kM [.t,.t,.t,.t,.t] (bw q.2.2.2))),(222,w50 q.2.1)],223⟩) ?_ (by refine am (fx 217) ?_;refine am (fx 218) ?_;refine am (fx 219) ?_;refine am (fx 220) ?_;exact wo)
  rintro⟨v4,v8,v19,v20⟩ o H
  refine ad ?_
  refine cC H ?_ ?_<;>intro H
  .refine aa H λr51 q51 H=>sA (cwv [(200,200)] [(210,223)] 224 (N9.h q51)) ?_
   refine aW (fx 223) ?_
   obtain⟨h,H⟩:=rq H
   refine sA (apT (enc:=yR) (ys:=v8) (zs:=[r51.1]) h) ?_
   refine aa H λr52 q52 H=>sA (cwv [] [(210,226),(211,227),(212,228),(213,229)] 230 (F9.h q52)) ?_
   refine aa H λr53 q53 H=>sA (cwu [(190,226),(191,227),(192,228),(193,229),(200,230)] [] 231 (Mc.h q53)) ?_
   refine aa H λv64 Hj H=>jA ⟨[(0,tP 200),(4,tP 210),(6,tP 211),(7,tP 216),(8,tP 221),(9,.v (.c (.w 222 ((v8++[r51.1]).length)))),(10,tI v4)],[(200,.var 125 (kM [.f] (cj r51.2))),(210,.var 34 (kM [.z,.z,.z,.z,.z] (bw {ea with ev:=(⟨[]⟩:aS)}))),(211,.var 34 (kM [.z,.z,.z,.z,.z] (bw {ea with ev:=(⟨[]⟩:aS)}))),(216,.var 34 (kM [.t,.t,.t,.t,.t] (bw r1.1))),(221,.var 34 (kM [.t,.t,.t,.t,.t] (bw v64))),(222,w50 (v8++[r51.1]))],231⟩ ?_ ?_
   .refine cC Hj ?_ ?_<;>intro H
    .cases H
     refine am (fx 226) ?_
     refine am (fx 227) ?_
     refine am (fx 228) ?_
     refine am (fx 229) ?_
     exact wo
    exact ai H
   exact aN H
  exact aE H
 refine zI (f5 6) ?_
 refine wA (spx 100658) ?_
 refine wA (spx 100657) ?_
 cases H
 exact f8
end Go.AM
