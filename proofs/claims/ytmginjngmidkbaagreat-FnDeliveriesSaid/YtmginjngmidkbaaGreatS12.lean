/- A part. -/
import Derived.Test.YtmginjngmidkbaaGreatS11
set_option linter.unusedVariables false
open Option renaming bind->abU
open List renaming range->hV
namespace Go.AM
open Go.Proofs
open Tryz
attribute [local irreducible] AWN NS AWO AWR AWC DR ea gL
set_option maxRecDepth 100000
set_option maxHeartbeats 40000000
def ur (a0:ab) (a1:Int):Option ab:=
 abU (zx a0 a1) λr1=>abU (vC r1.2 r1.1.be) λr2=>abU (bif !r2 then(some {r1.2 with jr:=WR (r1.2.jr+1)}) else(abU (bif r1.1.eH then(bif !r1.1.dR then(some (eqB r1.1.bh.be r1.1.be)) else(some false)) else(some false)) λ(v14:Bool)=>abU (bif v14 then(abU (ix r1.2.aF r1.1.bk) λx26=>abU (oV x26 r1.1.bh) λr27=>abU (ix r1.2.aF r1.1.bk) λx28=>abU (lG {r1.2 with aF:=(r1.2.aF.set (r1.1.bk).toNat r27.aZ)} r1.1.bk false r27.db) λr29=>some r29) else(abU (bif r1.1.eH then(some r1.2) else(abU (ix r1.2.av r1.1.bk) λx41=>abU (bif !eqB x41.be r1.1.be then(some {r1.2 with jr:=WR (r1.2.jr+1)}) else(abU (bif r1.1.dR then(abU (ix r1.2.av r1.1.bk) λx64=>abU (pW x64 r1.1.cz) λr65=>abU (jh r1.2 r1.1.bk r65) λr66=>some r66) else(abU (ix r1.2.av r1.1.bk) λx67=>abU (oU x67 r1.1.bh) λr68=>abU (jh r1.2 r1.1.bk r68) λr69=>some r69)) λ(v63:ab)=>some v63)) λ(v52:ab)=>some v52)) λ(v40:ab)=>some v40)) λ(v25:ab)=>some v25)) λ(v13:ab)=>some v13
theorem IF {a0:ab} {a1:Int} {r:ab} (H:ur a0 a1=some r):FnV prog 267 (nS a0) [tP 200,tI a1] (nS r) (.tup []) []:=by
 refine fV func267 ntmps267 ?_
 refine aa H λr1 q1 H=>sA (cwu m0 [] 210 (HP q1)) ?_
 refine dI ?_
 refine aa H λr2 q2 H=>dA (ca (hF:=Et q2)) ?_
 refine wI ?_
 refine aa H λv13 Hj H=>jA ⟨[],(nS v13),210⟩ ?_ ?_
 .refine cC Hj ?_ ?_<;>intro H
  .exact ai H
  refine aa H λv14 Hj H=>jR ⟨[(0,tP 200),(4,tP 210),(5,tI r1.1.bk),(41,tB v14)],(nS r1.2++[(210,.var 49 (kM [.t] (jt r1.1)))]),211⟩ ?_ ?_
  .exact az Hj
  refine aa H λv25 Hj H=>jA ⟨[],(nS v25),210⟩ ?_ ?_
  .refine cC Hj ?_ ?_<;>intro H
   .refine zI (hV 12) ?_
    refine aa H λx26 hx26 H=>zA (qy hx26) ?_
    refine zA (KP (he:=f7 _ hx26)) ?_
    refine aa H λr27 q27 H=>zA (ca (hF:=DT q27)) ?_
    refine wA (spx 100472) ?_
    refine zI (hV 9) ?_
    refine aa H λx28 hx28 H=>zA (qy hx28) ?_
    refine zB (lI 191 (hne:=yH (enc:=bU) hx28)) (gG rfl (soT (enc:=bU) (a':=r27.aZ) hx28)) b8 ?_
    refine aa H λr29 q29 H=>bQ (bb (o:=211)) ?_
    refine bQ (b7 (k:=78)) ?_
    refine bQ (ee 191) ?_
    refine bQ (wB 191 ((r1.2.aF.set (r1.1.bk).toNat r27.aZ).length)) ?_
    refine sA (cwu m0 [] 213 (uY q29)) ?_
    exact ai H
   refine aa H λv40 Hj H=>jA ⟨[],(nS v40),210⟩ ?_ ?_
   .refine cC Hj ?_ ?_<;>intro H
    .exact ai H
    refine dI ?_
    refine aa H λx41 hx41 H=>dA (qy hx41) ?_
    refine dA (oen (he:=f7 _ hx41)) ?_
    refine wI ?_
    refine aa H λv52 Hj H=>jA ⟨[],(nS v52),210⟩ ?_ ?_
    .refine cC Hj ?_ ?_<;>intro H
     .exact ai H
     refine aa H λv63 Hj H=>jA ⟨[],(nS v63),210⟩ ?_ ?_
     .refine cC Hj ?_ ?_<;>intro H
      .refine zI (hV 13) ?_
       refine aa H λx64 hx64 H=>zA (qy hx64) ?_
       refine zA (KP (he:=f7 _ hx64)) ?_
       refine aa H λr65 q65 H=>zA (ca (hF:=E7 q65)) ?_
       refine aa H λr66 q66 H=>zB (aq (bb (o:=211)) (aq (bb (o:=212)) (b7 (k:=117)))) (gG rfl (cwu m0 [] 213 (o8 q66))) b8 ?_
       exact ai H
      refine zI (hV 13) ?_
      refine aa H λx67 hx67 H=>zA (qy hx67) ?_
      refine zA (KP (he:=f7 _ hx67)) ?_
      refine aa H λr68 q68 H=>zA (ca (hF:=DQ q68)) ?_
      refine aa H λr69 q69 H=>zB (aq (bb (o:=211)) (b7 (k:=23))) (gG rfl (cwu m0 [] 212 (o8 q69))) b8 ?_
      exact ai H
     exact ai H
    exact ai H
   exact ai H
  exact ai H
 cases H
 exact mn
def xe (a0:ab) (a1:dh):Option (Bool×ab):=
 abU (dB a1.cF 0 (WR ((a0.aK.length:Int)-1))) λr1=>bif !r1 then(some (false,a0)) else(bif eqB a1.a8 2 then(abU (ur a0 a1.cF) λr2=>some (true,r2)) else(bif eqB a1.a8 3 then(abU (zx a0 a1.cF) λr3=>some (true,{r3.2 with jr:=WR (r3.2.jr+1)})) else(bif leB 200 (a0.aK.length:Int) then(some (false,a0)) else(abU (ix a0.aK a1.cF) λx4=>abU (gk a0 x4) λr5=>some (true,r5)))))
theorem Lh {a0:ab} {a1:dh} {r:Bool×ab} (H:xe a0 a1=some r):FnV prog 192 (nS a0) [tP 200,.v (.agg (kM [.t,.t] (fB a1)))] (nS r.2) (.v (.c (.d false (.b r.1)))) []:=by
 refine fV func192 ntmps192 ?_
 refine dI ?_
 refine aa H λr1 q1 H=>dA (ca (hF:=cm q1)) ?_
 refine wI ?_
 refine cC H ?_ ?_<;>intro H
 .cases H
  exact cd
 refine cC H ?_ ?_<;>intro H
 .refine aa H λr2 q2 H=>sA (cwu m0 [] 211 (IF q2)) ?_
  cases H
  exact cd
 refine cC H ?_ ?_<;>intro H
 .refine aa H λr3 q3 H=>sA (cwu m0 [] 211 (HP q3)) ?_
  cases H
  exact cd
 refine cC H ?_ ?_<;>intro H
 .cases H
  exact cd
 refine zI (hV 10) ?_
 refine aa H λx4 hx4 H=>zA (qy hx4) ?_
 refine zA (KP (he:=f7 _ hx4)) ?_
 refine aa H λr5 q5 H=>zB b8 (gG rfl (cwu m0 [] 211 (tc q5))) b8 ?_
 cases H
 exact cd
def Fx (a0:ab) (a1:dh):Option (Bool×ab):=
 abU (dB a1.cF 0 (WR ((a0.av.length:Int)-1))) λr1=>bif !r1 then(some (false,a0)) else(abU (ix a0.av a1.cF) λx2=>bif eqB a1.a8 5 then(bif !eqB x2.bj 0 then(some (false,a0)) else(abU (y7 x2) λr3=>abU (jh a0 a1.cF r3) λr4=>some (true,r4))) else(bif eqB a1.a8 6 then(abU (bif eqB a1.be x2.be then(some true) else(abU (dB a1.be 0 (WR ((a0.eo.aX.length:Int)-1))) λr6=>some (!r6))) λ(v5:Bool)=>bif v5 then(some (false,a0)) else(abU (tW x2 a1.be) λr7=>abU (jh a0 a1.cF r7) λr8=>some (true,r8))) else(bif eqB a1.a8 7 then(bif !eqB x2.bj 2 then(some (false,a0)) else(abU (wT x2) λr9=>abU (ix a0.av a1.cF) λx10=>some (true,{a0 with av:=(a0.av.set (a1.cF).toNat r9)}))) else(abU (ix a0.aF a1.cF) λx11=>abU (mD x11 a1.bg) λr12=>abU (ix a0.aF a1.cF) λx13=>some (r12.2,{a0 with aF:=(a0.aF.set (a1.cF).toNat r12.1)})))))
theorem Sv {a0:ab} {a1:dh} {r:Bool×ab} (H:Fx a0 a1=some r):FnV prog 193 (nS a0) [tP 200,.v (.agg (kM [.t,.t] (fB a1)))] (nS r.2) (.v (.c (.d false (.b r.1)))) []:=by
 refine fV func193 ntmps193 ?_
 refine aa H λr1 q1 H=>nA (ca (hF:=cm q1)) ?_
 refine cC H ?_ ?_<;>intro H
 .cases H
  exact cd
 refine aa H λx2 hx2 H=>bQ (lI 190 (hne:=yH (enc:=cS) hx2)) ?_
 refine nA (xwT hx2) ?_
 refine nA (oea (he:=f7 _ hx2)) ?_
 refine cC H ?_ ?_<;>intro H
 .refine cC H ?_ ?_<;>intro H
  .cases H
   refine co ((ee 190)) ?_
   exact cd
  refine aa H λr3 q3 H=>nA (ca (hF:=Hn q3)) ?_
  refine aa H λr4 q4 H=>bQ (bb (o:=212)) ?_
  refine bQ (b7 (k:=58)) ?_
  refine bQ (ee 190) ?_
  refine sA (cwu m0 [] 213 (o8 q4)) ?_
  cases H
  exact cd
 refine cC H ?_ ?_<;>intro H
 .refine dI ?_
  refine aa H λv5 Hj H=>fA ⟨[(0,tP 200),(3,tP 210),(5,tI a1.cF),(6,tP 211),(79,tB v5)],(oM [.t,.w 190,.n 191,.n 192,.n 193] 200 34 (aU a0)++[(210,.var 51 (kM [.t,.t] (fB a1))),(211,.var 93 (kM [.t,.t] (dt x2)))]),212⟩ ?_ ?_
  .have H:=Hj
   refine wI ?_
   refine dC H ?_ ?_<;>intro H
   .refine wI ?_
    exact ai H
   refine aa H λr6 q6 H=>dG (ca (hF:=cm q6)) ?_
   refine wI ?_
   exact ai H
  refine wI ?_
  refine cC H ?_ ?_<;>intro H
  .refine wI ?_
   cases H
   refine co ((ee 190)) ?_
   exact cd
  refine aa H λr7 q7 H=>nA (ca (hF:=Ix q7)) ?_
  refine aa H λr8 q8 H=>bQ (bb (o:=212)) ?_
  refine bQ (b7 (k:=85)) ?_
  refine bQ (ee 190) ?_
  refine sA (cwu m0 [] 213 (o8 q8)) ?_
  refine wI ?_
  cases H
  exact cd
 refine cC H ?_ ?_<;>intro H
 .refine cC H ?_ ?_<;>intro H
  .cases H
   refine co ((ee 190)) ?_
   exact cd
  refine zI (hV 9) ?_
  refine aa H λr9 q9 H=>zA (ca (hF:=K2 q9)) ?_
  refine aa H λx10 hx10 H=>zA (xwT hx10) ?_
  refine zB (aq (bb (o:=212)) (aq (bb (o:=213)) (b7 (k:=98)))) (gG rfl (soT (enc:=cS) (a':=r9) hx10)) b8 ?_
  cases H
  refine co ((ee 190)) ?_
  refine co ((wB 190 ((a0.av.set (a1.cF).toNat r9).length))) ?_
  exact cd
 refine zI (hV 16) ?_
 refine aa H λx11 hx11 H=>zA (qy hx11) ?_
 refine zA (KP (he:=f7 _ hx11)) ?_
 refine aa H λr12 q12 H=>zA (ca (hF:=xJ q12)) ?_
 refine wA (spx 100474) ?_
 refine zI (hV 8) ?_
 refine aa H λx13 hx13 H=>zA (qy hx13) ?_
 refine zB (aq (bb (o:=212)) (aq (bb (o:=213)) (aq (bb (o:=214)) (aq (b7 (k:=47)) (lI 191 (hne:=yH (enc:=bU) hx13)))))) (gG rfl (soT (enc:=bU) (a':=r12.1) hx13)) b8 ?_
 cases H
 refine co ((ee 190)) ?_
 refine co ((ee 191)) ?_
 refine co ((wB 191 ((a0.aF.set (a1.cF).toNat r12.1).length))) ?_
 exact cd
def z8 (a0:ab) (a1:dh):Option (Bool×ab):=
 bif eqB a1.a8 1 then(abU (CX a0) λr1=>some (r1.1,r1.2)) else(abU (bif eqB a1.a8 2 then(some (eqB a1.a8 2)) else(abU (bif eqB a1.a8 3 then(some (eqB a1.a8 3)) else(some (eqB a1.a8 4))) λ(v3:Bool)=>some v3)) λ(v2:Bool)=>bif v2 then(abU (xe a0 a1) λr4=>some (r4.1,r4.2)) else(abU (bif eqB a1.a8 5 then(some (eqB a1.a8 5)) else(abU (bif eqB a1.a8 6 then(some (eqB a1.a8 6)) else(abU (bif eqB a1.a8 7 then(some (eqB a1.a8 7)) else(some (eqB a1.a8 8))) λ(v7:Bool)=>some v7)) λ(v6:Bool)=>some v6)) λ(v5:Bool)=>bif v5 then(abU (Fx a0 a1) λr8=>some (r8.1,r8.2)) else(abU (bif eqB a1.a8 9 then(some (eqB a1.a8 9)) else(some (eqB a1.a8 10))) λ(v9:Bool)=>bif v9 then(abU (CT a0 a1.cF (eqB a1.a8 10)) λr10=>some (r10.1,r10.2)) else(abU (bif eqB a1.a8 11 then(some (eqB a1.a8 11)) else(some (eqB a1.a8 12))) λ(v11:Bool)=>bif v11 then(abU (xf a0 a1.cF (eqB a1.a8 12)) λr12=>some (r12.1,r12.2)) else(bif eqB a1.a8 13 then(abU (jW a0 a1.bS) λr13=>bif !r13 then(some (false,a0)) else(abU (gk a0 a1.bS) λr14=>some (true,r14))) else(some (false,a0)))))))
theorem Np {a0:ab} {a1:dh} {r:Bool×ab} (H:z8 a0 a1=some r):FnV prog 115 (nS a0) [tP 200,.v (.agg (kM [.t,.t] (fB a1)))] (nS r.2) (.v (.c (.d false (.b r.1)))) []:=by
 refine fV func115 ntmps115 ?_
 refine cC H ?_ ?_<;>intro H
 .refine aa H λr1 q1 H=>sA (cwu m0 [] 211 (O7 q1)) ?_
  cases H
  exact cd
 refine aa H λv2 Hj H=>jA ⟨[(0,tP 200),(3,tP 210),(6,tI a1.a8),(11,tB v2)],(nS a0++[(210,.var 51 (kM [.t,.t] (fB a1)))]),211⟩ ?_ ?_
 .refine cC Hj ?_ ?_<;>intro H
  .exact ai H
  refine aa H λv3 Hj H=>jA ⟨[(0,tP 200),(3,tP 210),(6,tI a1.a8),(11,tB v3)],(nS a0++[(210,.var 51 (kM [.t,.t] (fB a1)))]),211⟩ ?_ ?_
  .exact az Hj
  exact ai H
 refine cC H ?_ ?_<;>intro H
 .refine aa H λr4 q4 H=>sA (cwu m0 [] 211 (Lh q4)) ?_
  cases H
  exact cd
 refine aa H λv5 Hj H=>jA ⟨[(0,tP 200),(3,tP 210),(6,tI a1.a8),(18,tB v5)],(nS a0++[(210,.var 51 (kM [.t,.t] (fB a1)))]),211⟩ ?_ ?_
 .refine cC Hj ?_ ?_<;>intro H
  .exact ai H
  refine aa H λv6 Hj H=>jA ⟨[(0,tP 200),(3,tP 210),(6,tI a1.a8),(18,tB v6)],(nS a0++[(210,.var 51 (kM [.t,.t] (fB a1)))]),211⟩ ?_ ?_
  .refine cC Hj ?_ ?_<;>intro H
   .exact ai H
   refine aa H λv7 Hj H=>jA ⟨[(0,tP 200),(3,tP 210),(6,tI a1.a8),(18,tB v7)],(nS a0++[(210,.var 51 (kM [.t,.t] (fB a1)))]),211⟩ ?_ ?_
   .exact az Hj
   exact ai H
  exact ai H
 refine cC H ?_ ?_<;>intro H
 .refine aa H λr8 q8 H=>sA (cwu m0 [] 211 (Sv q8)) ?_
  cases H
  exact cd
 refine aa H λv9 Hj H=>jA ⟨[(0,tP 200),(3,tP 210),(6,tI a1.a8),(26,tB v9)],(nS a0++[(210,.var 51 (kM [.t,.t] (fB a1)))]),211⟩ ?_ ?_
 .exact az Hj
 refine cC H ?_ ?_<;>intro H
 .refine aa H λr10 q10 H=>sA (cwu m0 [] 211 (O5 q10)) ?_
  cases H
  exact cd
 refine aa H λv11 Hj H=>jA ⟨[(0,tP 200),(3,tP 210),(6,tI a1.a8),(36,tB v11)],(nS a0++[(210,.var 51 (kM [.t,.t] (fB a1)))]),211⟩ ?_ ?_
 .exact az Hj
 refine cC H ?_ ?_<;>intro H
 .refine aa H λr12 q12 H=>sA (cwu m0 [] 211 (Li q12)) ?_
  cases H
  exact cd
 refine cC H ?_ ?_<;>intro H
 .refine dI ?_
  refine aa H λr13 q13 H=>dA (ca (hF:=zw q13)) ?_
  refine wI ?_
  refine cC H ?_ ?_<;>intro H
  .cases H
   exact cd
  refine aa H λr14 q14 H=>sA (cwu m0 [] 211 (tc q14)) ?_
  cases H
  exact cd
 cases H
 exact cd
def HO:(Int×List dh×bm×ab)->Option (cq (Int×List dh×bm×ab) (List dh×bm×ab))
 |(v4,v8,v19,v20)=>bif ltB 0 v4 then(abU (CU v19 v20) λr51=>bif c8 224 (v8++[r51.1]).length then(abU (zu v20) λr52=>abU (z8 r52 r51.1) λr53=>abU (bif r53.1 then(some r53.2) else(some v20)) λ(v64:ab)=>some (.next (WR (v4-1),(v8++[r51.1]),r51.2,v64))) else none) else(some (.done (v8,v19,v20)))
def CW (a0:bm) (a1:Int):Option (ab×List dh×ab×bm):=
 abU (CS a0) λr1=>abU (zu r1.1) λr2=>abU (cI r1.2 a1) λr3=>abU (iter (HO) FU (WR (3+r3.1),([]:List dh),r3.2,r2)) λ((v38,v49,v50):List dh×bm×ab)=>some (r1.1,v38,v50,v49)
theorem Sw {a0:bm} {a1:Int} {r:ab×List dh×ab×bm} (H:CW a0 a1=some r):FnW prog 58 (.var 135 (kM [.f] (ci a0))) [tP 200,tI a1] (.var 135 (kM [.f] (ci r.2.2.2))) [.agg (qM [.d,.d,.d,.d,.d] (aU r.1)),.c (.own 51 25 (r.2.1.map Fk) r.2.1.length),.agg (qM [.d,.d,.d,.d,.d] (aU r.2.2.1))]:=by
 refine fW func58 ntmps58 ?_
 refine aa H λr1 q1 H=>sA (cwv [(200,200)] [(210,212),(211,213),(212,214),(213,215)] 216 (Su q1)) ?_
 refine aa H λr2 q2 H=>bQ (fU 212) ?_
 refine bQ (fU 213) ?_
 refine bQ (fU 214) ?_
 refine bQ (fU 215) ?_
 refine sA (cwv [] [(210,217),(211,218),(212,219),(213,220)] 221 (HL q2)) ?_
 refine aa H λr3 q3 H=>sA (cw (o:=200) (cp q3)) ?_
 obtain⟨⟨v38,v49,v50⟩,Hj,H⟩:=ob H
 refine jB ⟨[(4,tP 210),(6,tP 211),(7,tP 216),(8,tP 221),(9,.v (.c (.w 222 v38.length)))],[(200,.var 135 (kM [.f] (ci v49))),(210,.var 34 (kM [.z,.z,.z,.z,.z] (aU {dT with eo:=(⟨[]⟩:aS)}))),(211,.var 34 (kM [.z,.z,.z,.z,.z] (aU {dT with eo:=(⟨[]⟩:aS)}))),(216,.var 34 (kM [.t,.t,.t,.t,.t] (aU r1.1))),(221,.var 34 (kM [.t,.t,.t,.t,.t] (aU v50))),(222,w51 v38)],223⟩ ?_ ?_
 .refine iT Hj (λq=>⟨[(0,tP 200),(4,tP 210),(6,tP 211),(7,tP 216),(8,tP 221),(9,.v (.c (.w 222 q.2.1.length))),(10,tI q.1)],[(200,.var 135 (kM [.f] (ci q.2.2.1))),(210,.var 34 (kM [.z,.z,.z,.z,.z] (aU {dT with eo:=(⟨[]⟩:aS)}))),(211,.var 34 (kM [.z,.z,.z,.z,.z] (aU {dT with eo:=(⟨[]⟩:aS)}))),(216,.var 34 (kM [.t,.t,.t,.t,.t] (aU r1.1))),(221,.var 34 (kM [.t,.t,.t,.t,.t] (aU q.2.2.2))),(222,w51 q.2.1)],223⟩) ?_ (by refine aq (fU 217) ?_;refine aq (fU 218) ?_;refine aq (fU 219) ?_;refine aq (fU 220) ?_;exact wo)
  rintro⟨v4,v8,v19,v20⟩ o H
  refine ad ?_
  refine cC H ?_ ?_<;>intro H
  .refine aa H λr51 q51 H=>sA (cwv [(200,200)] [(210,223)] 224 (O6 q51)) ?_
   refine aW (fU 223) ?_
   obtain⟨h,H⟩:=rq H
   refine sA (apT (enc:=Fk) (ys:=v8) (zs:=[r51.1]) h) ?_
   refine aa H λr52 q52 H=>sA (cwv [] [(210,226),(211,227),(212,228),(213,229)] 230 (HL q52)) ?_
   refine aa H λr53 q53 H=>sA (cwu [(190,226),(191,227),(192,228),(193,229),(200,230)] [] 231 (Np q53)) ?_
   refine aa H λv64 Hj H=>jA ⟨[(0,tP 200),(4,tP 210),(6,tP 211),(7,tP 216),(8,tP 221),(9,.v (.c (.w 222 ((v8++[r51.1]).length)))),(10,tI v4)],[(200,.var 135 (kM [.f] (ci r51.2))),(210,.var 34 (kM [.z,.z,.z,.z,.z] (aU {dT with eo:=(⟨[]⟩:aS)}))),(211,.var 34 (kM [.z,.z,.z,.z,.z] (aU {dT with eo:=(⟨[]⟩:aS)}))),(216,.var 34 (kM [.t,.t,.t,.t,.t] (aU r1.1))),(221,.var 34 (kM [.t,.t,.t,.t,.t] (aU v64))),(222,w51 (v8++[r51.1]))],223⟩ ?_ ?_
   .refine cC Hj ?_ ?_<;>intro H
    .cases H
     refine aq (fU 226) ?_
     refine aq (fU 227) ?_
     refine aq (fU 228) ?_
     refine aq (fU 229) ?_
     exact wo
    exact ai H
   exact aN H
  exact aE H
 refine zI (hV 6) ?_
 refine wA (spx 100488) ?_
 refine wA (spx 100487) ?_
 cases H
 exact f4
end Go.AM
