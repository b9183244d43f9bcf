/- A part. -/
import Derived.Test.YtmginjngmidkbaaGreatS9
set_option linter.unusedVariables false
open Option renaming bind->abU
open List renaming range->f4
namespace Go.AM
open Go.Proofs
open Tryz
attribute [local irreducible] AWN NS AWO AWR AWC DR DZ dS gp iter
set_option maxRecDepth 100000
set_option maxHeartbeats 40000000
def BT (a0:bj) (a1:ab):Option (dN×bj):=
 abU (FQ 1 (a1.av.length:Int)) λr1=>abU (cO a0 r1) λr2=>abU (cO r2.2 34) λr3=>bif eqB r3.1 0 then(some ({eo with bh:=5,cB:=r2.1},r3.2)) else(abU (bif eqB r3.1 1 then(some (eqB r3.1 1)) else(some (eqB r3.1 2))) λ(v4:Bool)=>bif v4 then(abU (cO r3.2 (WR ((a1.ei.a8.length:Int)+1))) λr5=>some ((⟨6,r2.1,r5.1,[],fL⟩:dN),r5.2)) else(bif eqB r3.1 3 then(some ({eo with bh:=7,cB:=r2.1},r3.2)) else(abU (bif eqB r3.1 4 then(some (eqB r3.1 4)) else(some (eqB r3.1 5))) λ(v6:Bool)=>bif v6 then(abU (cO r3.2 4) λr7=>abU (yv r7.2 r7.1) λr8=>some ((⟨8,r2.1,0,r8.1,fL⟩:dN),r8.2)) else(bif eqB r3.1 6 then(abU (cO r3.2 (WR ((a1.ei.a8.length:Int)+1))) λr9=>some ({eo with bh:=9,cB:=r9.1},r9.2)) else(abU (bif eqB r3.1 7 then(some (eqB r3.1 7)) else(some (eqB r3.1 8))) λ(v10:Bool)=>bif v10 then(abU (cO r3.2 (WR ((a1.ei.a8.length:Int)+1))) λr11=>some ({eo with bh:=10,cB:=r11.1},r11.2)) else(bif eqB r3.1 9 then(abU (cO r3.2 2) λr12=>some ({eo with bh:=11,cB:=r12.1},r12.2)) else(bif eqB r3.1 10 then(abU (cO r3.2 2) λr13=>some ({eo with bh:=12,cB:=r13.1},r13.2)) else(abU (bif eqB r3.1 11 then(some (eqB r3.1 11)) else(some (eqB r3.1 12))) λ(v14:Bool)=>bif v14 then(bif ltB 0 (a1.av.length:Int) then(abU (zi r3.2 a1) λr15=>some ({r15.1 with bb:=[]},r15.2)) else(abU (bif ltB 0 (a1.aT.length:Int) then(abU (jn r3.2 4) λr21=>some (!r21.1,r21.2)) else(some (false,r3.2))) λ((v16,v20):Bool×bj)=>bif v16 then(abU (FT (a1.aT.length:Int) 3) λr22=>abU (cO v20 r22) λr23=>abU (cO r23.2 12) λr24=>bif eqB r24.1 0 then(some ({eo with bh:=3,cB:=r23.1},r24.2)) else(bif eqB r24.1 1 then(some ({eo with bh:=4,cB:=r23.1},r24.2)) else(some ({eo with bh:=2,cB:=r23.1},r24.2)))) else(some ({eo with bh:=1},v20)))) else(abU (bif ltB 0 (a1.aT.length:Int) then(abU (jn r3.2 4) λr30=>some (!r30.1,r30.2)) else(some (false,r3.2))) λ((v25,v29):Bool×bj)=>bif v25 then(abU (FT (a1.aT.length:Int) 3) λr31=>abU (cO v29 r31) λr32=>abU (cO r32.2 12) λr33=>bif eqB r33.1 0 then(some ({eo with bh:=3,cB:=r32.1},r33.2)) else(bif eqB r33.1 1 then(some ({eo with bh:=4,cB:=r32.1},r33.2)) else(some ({eo with bh:=2,cB:=r32.1},r33.2)))) else(some ({eo with bh:=1},v29)))))))))))
theorem Oo {a0:bj} {a1:ab} {r:dN×bj} (H:BT a0 a1=some r):FnV prog 114 [(200,.var 135 (kM [.f] (co a0)))] [tP 200,.v (.agg (kM [.f,.f,.f,.f,.f] (bw a1)))] [(200,.var 135 (kM [.f] (co r.2)))] (.v (.agg (kM [.t,.n 210] (f8 r.1)))) [(210,n5 r.1.b8.cA.bC.bb)]:=by
 refine fV func114 ntmps114 ?_
 refine aa H λr1 q1 H=>nA (ca (hF:=VF.h q1)) ?_
 refine aa H λr2 q2 H=>sA (cw (o:=200) (cp q2)) ?_
 refine aa H λr3 q3 H=>sA (cw (o:=200) (cp q3)) ?_
 refine cC H ?_ ?_<;>intro H
 .cases H
  refine bF ((fH (o:=211) (j:=3))) ?_
  refine bF ((dH (o:=211) (j:=23) 5 1 true)) ?_
  refine bF (wS 212 210) ?_
  refine bF ((wB 210 (([]:List Int).length))) ?_
  exact cg
 refine aa H λv4 Hj H=>jA ⟨[(0,tP 200),(3,tP 210),(4,tP 211),(5,tI r2.1),(14,tI r3.1),(19,tB v4)],[(200,.var 135 (kM [.f] (co r3.2))),(210,.var 34 (kM [.f,.f,.f,.f,.f] (bw a1))),(211,.var 51 (kM [.z,.z] (f8 eo)))],212⟩ ?_ ?_
 .exact az Hj
 refine cC H ?_ ?_<;>intro H
 .refine aa H λr5 q5 H=>sA (cw (o:=200) (cp q5)) ?_
  cases H
  refine bF ((fH (o:=211) (j:=3))) ?_
  refine bF ((dH (o:=211) (j:=23) 5 1 true)) ?_
  refine bF (wS 212 210) ?_
  refine bF ((wB 210 (([]:List Int).length))) ?_
  exact cg
 refine cC H ?_ ?_<;>intro H
 .cases H
  refine bF ((fH (o:=211) (j:=3))) ?_
  refine bF ((dH (o:=211) (j:=23) 5 1 true)) ?_
  refine bF (wS 212 210) ?_
  refine bF ((wB 210 (([]:List Int).length))) ?_
  exact cg
 refine aa H λv6 Hj H=>jA ⟨[(0,tP 200),(3,tP 210),(4,tP 211),(5,tI r2.1),(14,tI r3.1),(35,tB v6)],[(200,.var 135 (kM [.f] (co r3.2))),(210,.var 34 (kM [.f,.f,.f,.f,.f] (bw a1))),(211,.var 51 (kM [.z,.z] (f8 eo)))],212⟩ ?_ ?_
 .exact az Hj
 refine cC H ?_ ?_<;>intro H
 .refine aa H λr7 q7 H=>sA (cw (o:=200) (cp q7)) ?_
  refine aa H λr8 q8 H=>sA (cw (o:=200) (Gh q8)) ?_
  cases H
  refine bF ((aV (o:=212))) ?_
  refine bF ((bN (k:=42))) ?_
  refine bF ((bN (k:=43))) ?_
  refine bF ((cz (o:=211))) ?_
  refine bF ((dH (o:=211) (j:=23) 5 1 true)) ?_
  refine bF (wS 213 210) ?_
  refine bF ((wB 210 (([]:List Int).length))) ?_
  exact cg
 refine cC H ?_ ?_<;>intro H
 .refine aa H λr9 q9 H=>sA (cw (o:=200) (cp q9)) ?_
  cases H
  refine bF ((fH (o:=211) (j:=3))) ?_
  refine bF ((dH (o:=211) (j:=23) 5 1 true)) ?_
  refine bF (wS 212 210) ?_
  refine bF ((wB 210 (([]:List Int).length))) ?_
  exact cg
 refine aa H λv10 Hj H=>jA ⟨[(0,tP 200),(3,tP 210),(4,tP 211),(14,tI r3.1),(54,tB v10)],[(200,.var 135 (kM [.f] (co r3.2))),(210,.var 34 (kM [.f,.f,.f,.f,.f] (bw a1))),(211,.var 51 (kM [.z,.z] (f8 eo)))],212⟩ ?_ ?_
 .exact az Hj
 refine cC H ?_ ?_<;>intro H
 .refine aa H λr11 q11 H=>sA (cw (o:=200) (cp q11)) ?_
  cases H
  refine bF ((fH (o:=211) (j:=3))) ?_
  refine bF ((dH (o:=211) (j:=23) 5 1 true)) ?_
  refine bF (wS 212 210) ?_
  refine bF ((wB 210 (([]:List Int).length))) ?_
  exact cg
 refine cC H ?_ ?_<;>intro H
 .refine aa H λr12 q12 H=>sA (cw (o:=200) (cp q12)) ?_
  cases H
  refine bF ((fH (o:=211) (j:=3))) ?_
  refine bF ((dH (o:=211) (j:=23) 5 1 true)) ?_
  refine bF (wS 212 210) ?_
  refine bF ((wB 210 (([]:List Int).length))) ?_
  exact cg
 refine cC H ?_ ?_<;>intro H
 .refine aa H λr13 q13 H=>sA (cw (o:=200) (cp q13)) ?_
  cases H
  refine bF ((fH (o:=211) (j:=3))) ?_
  refine bF ((dH (o:=211) (j:=23) 5 1 true)) ?_
  refine bF (wS 212 210) ?_
  refine bF ((wB 210 (([]:List Int).length))) ?_
  exact cg
 refine aa H λv14 Hj H=>jA ⟨[(0,tP 200),(3,tP 210),(4,tP 211),(75,tB v14)],[(200,.var 135 (kM [.f] (co r3.2))),(210,.var 34 (kM [.f,.f,.f,.f,.f] (bw a1))),(211,.var 51 (kM [.z,.z] (f8 eo)))],212⟩ ?_ ?_
 .exact az Hj
 refine cC H ?_ ?_<;>intro H
 .refine cC H ?_ ?_<;>intro H
  .refine aa H λr15 q15 H=>sA (cwv [(200,200)] [(210,212)] 213 (My q15)) ?_
   cases H
   refine bF ((fH (o:=211) (j:=3))) ?_
   refine bF (wS 212 210) ?_
   exact cg
  obtain⟨⟨v16,v20⟩,Hj,H⟩:=ob H
  refine jR ⟨[(0,tP 200),(3,tP 210),(4,tP 211),(93,tB v16)],[(200,.var 135 (kM [.f] (co v20))),(210,.var 34 (kM [.f,.f,.f,.f,.f] (bw a1))),(211,.var 51 (kM [.z,.z] (f8 eo)))],212⟩ ?_ ?_
  .refine gC Hj ?_ ?_<;>intro H
   .refine aa H λr21 q21 H=>sG (cw (o:=200) (i8 q21)) ?_
    exact ai H
   exact ai H
  refine cC H ?_ ?_<;>intro H
  .refine aa H λr22 q22 H=>nA (ca (hF:=J7.h q22)) ?_
   refine aa H λr23 q23 H=>sA (cw (o:=200) (cp q23)) ?_
   refine aa H λr24 q24 H=>sA (cw (o:=200) (cp q24)) ?_
   refine cC H ?_ ?_<;>intro H
   .cases H
    refine bF ((fH (o:=211) (j:=3))) ?_
    refine bF ((dH (o:=211) (j:=23) 5 1 true)) ?_
    refine bF (wS 212 210) ?_
    refine bF ((wB 210 (([]:List Int).length))) ?_
    exact cg
   refine cC H ?_ ?_<;>intro H
   .cases H
    refine bF ((fH (o:=211) (j:=3))) ?_
    refine bF ((dH (o:=211) (j:=23) 5 1 true)) ?_
    refine bF (wS 212 210) ?_
    refine bF ((wB 210 (([]:List Int).length))) ?_
    exact cg
   cases H
   refine bF ((fH (o:=211) (j:=3))) ?_
   refine bF ((dH (o:=211) (j:=23) 5 1 true)) ?_
   refine bF (wS 212 210) ?_
   refine bF ((wB 210 (([]:List Int).length))) ?_
   exact cg
  cases H
  refine bF ((fH (o:=211) (j:=3))) ?_
  refine bF ((dH (o:=211) (j:=23) 5 1 true)) ?_
  refine bF (wS 212 210) ?_
  refine bF ((wB 210 (([]:List Int).length))) ?_
  exact cg
 obtain⟨⟨v25,v29⟩,Hj,H⟩:=ob H
 refine jR ⟨[(0,tP 200),(3,tP 210),(4,tP 211),(93,tB v25)],[(200,.var 135 (kM [.f] (co v29))),(210,.var 34 (kM [.f,.f,.f,.f,.f] (bw a1))),(211,.var 51 (kM [.z,.z] (f8 eo)))],212⟩ ?_ ?_
 .refine gC Hj ?_ ?_<;>intro H
  .refine aa H λr30 q30 H=>sG (cw (o:=200) (i8 q30)) ?_
   exact ai H
  exact ai H
 refine cC H ?_ ?_<;>intro H
 .refine aa H λr31 q31 H=>nA (ca (hF:=J7.h q31)) ?_
  refine aa H λr32 q32 H=>sA (cw (o:=200) (cp q32)) ?_
  refine aa H λr33 q33 H=>sA (cw (o:=200) (cp q33)) ?_
  refine cC H ?_ ?_<;>intro H
  .cases H
   refine bF ((fH (o:=211) (j:=3))) ?_
   refine bF ((dH (o:=211) (j:=23) 5 1 true)) ?_
   refine bF (wS 212 210) ?_
   refine bF ((wB 210 (([]:List Int).length))) ?_
   exact cg
  refine cC H ?_ ?_<;>intro H
  .cases H
   refine bF ((fH (o:=211) (j:=3))) ?_
   refine bF ((dH (o:=211) (j:=23) 5 1 true)) ?_
   refine bF (wS 212 210) ?_
   refine bF ((wB 210 (([]:List Int).length))) ?_
   exact cg
  cases H
  refine bF ((fH (o:=211) (j:=3))) ?_
  refine bF ((dH (o:=211) (j:=23) 5 1 true)) ?_
  refine bF (wS 212 210) ?_
  refine bF ((wB 210 (([]:List Int).length))) ?_
  exact cg
 cases H
 refine bF ((fH (o:=211) (j:=3))) ?_
 refine bF ((dH (o:=211) (j:=23) 5 1 true)) ?_
 refine bF (wS 212 210) ?_
 refine bF ((wB 210 (([]:List Int).length))) ?_
 exact cg
def uB:(Int×ab)->Option (ct (Int×ab) (ab))
 |(v1,v12)=>bif ltB v1 (v12.av.length:Int) then(abU (ix v12.av v1) λx27=>abU (ul x27) λr28=>abU (jx v12 v1 r28) λr29=>some (.next (WR (v1+1),r29))) else(some (.done v12))
def n9 (v30:Int) (r88:bM):(Int×ab)->Option (ct (Int×ab) (ab))
 |(v92,v103)=>bif ltB v92 (r88.cA.length:Int) then(abU (ix r88.cA v92) λx117=>abU (gq v103 (⟨v30,false,true,r88.aU.bg,dQ,x117⟩:bS)) λr118=>some (.next (WR (v92+1),r118))) else(some (.done v103))
def uC:(Int×ab)->Option (ct (Int×ab) (ab))
 |(v30,v41)=>bif ltB v30 (v41.aF.length:Int) then(abU (ix v41.aF v30) λx86=>abU (ix v41.bk v30) λx87=>abU (rT x86 x87 v41.ei) λr88=>abU (ix v41.aF v30) λx89=>abU (ix v41.bk v30) λx90=>abU (ma {v41 with aF:=(v41.aF.set (v30).toNat r88.aU),bk:=(v41.bk.set (v30).toNat r88.d8)} v30 false r88.ja) λr91=>abU (iter (n9 v30 r88) FU (0,r91)) λ(v116:ab)=>some (.next (WR (v30+1),v116))) else(some (.done v41))
def BV (a0:ab):Option (Bool×ab):=
 bif leB 100000 a0.qO then(some (false,a0)) else(abU (iter (uB) FU (0,{a0 with qO:=WR (a0.qO+1)})) λ(v26:ab)=>abU (iter (uC) FU (0,v26)) λ(v85:ab)=>some (true,v85))
theorem Oq {a0:ab} {r:Bool×ab} (H:BV a0=some r):FnV prog 191 (nS a0) [tP 200] (nS r.2) (.v (.c (.d false (.b r.1)))) []:=by
 refine fV func191 ntmps191 ?_
 refine cC H ?_ ?_<;>intro H
 .cases H
  exact cg
 refine aa H λv26 Hj H=>jB ⟨[(0,tP 200)],(nS v26),210⟩ ?_ ?_
 .refine iT Hj (λq=>⟨[(0,tP 200),(3,tI q.1)],(nS q.2),210⟩) ?_
  rintro⟨v1,v12⟩ o H
  refine ad ?_
  refine cC H ?_ ?_<;>intro H
  .refine aa H λx27 hx27 H=>bG (mc 190 (hne:=xW (enc:=c9) hx27)) ?_
   refine nA (xwT hx27) ?_
   refine nA (oea (he:=ez _ hx27)) ?_
   refine aa H λr28 q28 H=>nA (ca (hF:=Hh.h q28)) ?_
   refine aa H λr29 q29 H=>bG (aV (o:=210)) ?_
   refine bG (bN (k:=38)) ?_
   refine bG (ec 190) ?_
   refine sA (cwu m0 [] 211 (pu q29)) ?_
   exact aN H
  exact aE H
 refine aa H λv85 Hj H=>jB ⟨[],(nS v85),210⟩ ?_ ?_
 .refine iT Hj (λq=>⟨[(0,tP 200),(4,tI q.1)],(nS q.2),210⟩) ?_
  rintro⟨v30,v41⟩ o H
  refine ad ?_
  refine cC H ?_ ?_<;>intro H
  .refine zI (f4 21) ?_
   refine aa H λx86 hx86 H=>zA (qN hx86) ?_
   refine zA (JR (he:=ez _ hx86)) ?_
   refine aa H λx87 hx87 H=>zA (qN hx87) ?_
   refine zA (JR (he:=ez _ hx87)) ?_
   refine aa H λr88 q88 H=>zA (ca (hF:=F7.h q88)) ?_
   refine wA (spx 100408) ?_
   refine zI (f4 9) ?_
   refine aa H λx89 hx89 H=>zA (qN hx89) ?_
   refine zB (an (aV (o:=210)) (an (aV (o:=211)) (an (aV (o:=212)) (an (bN (k:=74)) (mc 191 (hne:=xW (enc:=bZ) hx89)))))) (fQ rfl (soT (enc:=bZ) (a':=r88.aU) hx89)) bK ?_
   refine zI (f4 9) ?_
   refine aa H λx90 hx90 H=>zA (qN hx90) ?_
   refine zB (an (aV (o:=213)) (an (bN (k:=82)) (mc 192 (hne:=xW (enc:=cT) hx90)))) (fQ rfl (soT (enc:=cT) (a':=r88.d8) hx90)) bK ?_
   refine aa H λr91 q91 H=>bG (aV (o:=214)) ?_
   refine bG (bN (k:=87)) ?_
   refine bG (ec 191) ?_
   refine bG (ec 192) ?_
   refine bG (wB 191 ((v41.aF.set (v30).toNat r88.aU).length)) ?_
   refine bG (wB 192 ((v41.bk.set (v30).toNat r88.d8).length)) ?_
   refine sA (cwu m0 [] 217 (uV q91)) ?_
   refine aa H λv116 Hj H=>jB ⟨[(0,tP 200),(4,tI v30)],(nS v116),210⟩ ?_ ?_
   .refine iT Hj (λq=>⟨[(0,tP 200),(4,tI v30),(5,tP 216),(6,tI q.1)],(nS q.2++[(210,w3 r88.aU.gG.bJ true false),(211,Sq r88.aU.aG true false),(212,Kw r88.aU.aw.aA true false),(213,w115 r88.d8.aj true false),(214,w43 r88.ja true false),(215,w47 r88.cA),(216,.var 195 (kM [.w 210,.w 211,.w 212,.w 213,.w 214,.w 215] (bD r88)))]),217⟩) ?_
    rintro⟨v92,v103⟩ o H
    refine ad ?_
    refine cC H ?_ ?_<;>intro H
    .refine zI (f4 12) ?_
     refine aa H λx117 hx117 H=>zA (xwT hx117) ?_
     refine zA (oea (he:=ez _ hx117)) ?_
     refine aa H λr118 q118 H=>zB bK (fQ rfl (cwu m0 [] 217 (tp q118))) bK ?_
     exact aN H
    exact aE H
   exact aN H
  exact aE H
 cases H
 exact cg
def o9 (a0:ah) (a1:aH):Option bI:=
 abU (lX a1) λr1=>bif !r1 then(abU (pk a0) λr2=>some r2) else(bif eqB a1.bh 1 then(abU (o6 a0 a1) λr3=>some r3) else(bif eqB a1.bh 3 then(abU (my a0 a1) λr4=>some r4) else(bif eqB a1.bh 5 then(abU (kx a0 a1) λr5=>some r5) else(bif eqB a1.bh 8 then(abU (nB a0 a1) λr6=>some r6) else(abU (pk a0) λr7=>some r7)))))
instance CC {a0:ah} {a1:aH} {r:bI}:FC prog (o9 a0 a1=some r) 326 [.agg (bZ a0),.agg (cZ a1)] [.agg (qM [.d,.d,.d,.o] (eh r))]:=⟨λH=>by
 refine fI func326 ntmps326 ?_
 refine aa H λr1 q1 H=>nA (ca (hF:=vB.h q1)) ?_
 refine cC H ?_ ?_<;>intro H
 .refine aa H λr2 q2 H=>nA (ca (hF:=Ax.h q2)) ?_
  cases H
  refine dR (aV (o:=3)) ?_
  refine dR (aV (o:=4)) ?_
  refine dR (aV (o:=5)) ?_
  refine dR (cz (o:=2)) ?_
  exact bX
 refine cC H ?_ ?_<;>intro H
 .refine aa H λr3 q3 H=>nA (ca (hF:=Cz.h q3)) ?_
  cases H
  refine dR (aV (o:=3)) ?_
  refine dR (aV (o:=4)) ?_
  refine dR (aV (o:=5)) ?_
  refine dR (cz (o:=2)) ?_
  exact bX
 refine cC H ?_ ?_<;>intro H
 .refine aa H λr4 q4 H=>nA (ca (hF:=Aq.h q4)) ?_
  exact ao H
 refine cC H ?_ ?_<;>intro H
 .refine aa H λr5 q5 H=>nA (ca (hF:=yq.h q5)) ?_
  exact ao H
 refine cC H ?_ ?_<;>intro H
 .refine aa H λr6 q6 H=>nA (ca (hF:=BE.h q6)) ?_
  cases H
  refine dR (aV (o:=3)) ?_
  refine dR (aV (o:=4)) ?_
  refine dR (aV (o:=5)) ?_
  refine dR (cz (o:=2)) ?_
  exact bX
 refine aa H λr7 q7 H=>nA (ca (hF:=Ax.h q7)) ?_
 cases H
 refine dR (aV (o:=3)) ?_
 refine dR (aV (o:=4)) ?_
 refine dR (aV (o:=5)) ?_
 refine dR (cz (o:=2)) ?_
 exact bX⟩
def o8 (a0:aJ) (a1:aH):Option aY:=
 abU (lX a1) λr1=>abU (bif !r1 then(some true) else(bif !eqB a1.bg a0.bg then(some true) else(some (eqB a0.bi 0)))) λ(v2:Bool)=>bif v2 then(abU (th a0) λr3=>some r3) else(abU (kS a0) λr4=>abU (bif eqB a1.bh 2 then(some (eqB a0.bi 1)) else(some false)) λ(v5:Bool)=>bif v5 then(abU (zg a0 a1) λr6=>some r6) else(abU (bif eqB a1.bh 4 then(bif eqB a0.bi 1 then(abU (iA a0.aZ) λr8=>bif r8 then(bif eqB a1.ag a0.ag then(abU (iC a0.aZ a1) λr9=>some r9) else(some false)) else(some false)) else(some false)) else(some false)) λ(v7:Bool)=>bif v7 then(some (⟨{r4 with bi:=2,aX:=a1.aX,cy:=true},([]:List aH)⟩:aY)) else(abU (bif eqB a1.bh 6 then(bif eqB a0.bi 2 then(bif eqB a1.ag a0.ag then(bif eqB a1.aX a0.aX then(abU (iC a0.aZ a1) λr11=>some r11) else(some false)) else(some false)) else(some false)) else(some false)) λ(v10:Bool)=>bif v10 then(some (⟨{r4 with cy:=true},([]:List aH)⟩:aY)) else(abU (bif eqB a1.bh 7 then(bif eqB a0.bi 3 then(some (ltB a0.aX 999999)) else(some false)) else(some false)) λ(v12:Bool)=>bif v12 then(abU (yx {r4 with bi:=2}) λr13=>some r13) else(abU (bif eqB a1.bh 7 then(some (eqB a0.bi 2)) else(some false)) λ(v14:Bool)=>bif v14 then(abU (vK a0) λr15=>abU (nj {r4 with cy:=false} r15) λr16=>some r16) else(some (⟨r4,([]:List aH)⟩:aY)))))))
instance CB {a0:aJ} {a1:aH} {r:aY}:FC prog (o8 a0 a1=some r) 328 [.agg (c9 a0),.agg (cZ a1)] [.agg (qM [.d,.d,.o] (cd r))]:=⟨λH=>by
 refine fI func328 ntmps328 ?_
 refine aa H λr1 q1 H=>nA (ca (hF:=vB.h q1)) ?_
 refine aa H λv2 Hj H=>jR ⟨[(2,tP 0),(3,tP 1),(4,tP 2),(20,tB v2)],[(0,.var 93 (kM [.f,.f] (dF a0))),(1,.var 43 (kM [] (dt a1))),(2,.var 189 (kM [.z,.z,.z] (cd d5)))],3⟩ ?_ ?_
 .exact az Hj
 refine cC H ?_ ?_<;>intro H
 .refine aa H λr3 q3 H=>nA (ca (hF:=wO.h q3)) ?_
  cases H
  refine dR (aV (o:=3)) ?_
  refine dR (aV (o:=4)) ?_
  refine dR (cz (o:=2)) ?_
  exact bX
 refine aa H λr4 q4 H=>nA (ca (hF:=nT.h q4)) ?_
 refine aa H λv5 Hj H=>jR ⟨[(2,tP 0),(3,tP 1),(4,tP 2),(5,tP 5),(25,tB v5)],(oM [.w 3,.w 4] 5 93 (dF r4)++[(0,.var 93 (kM [.f,.f] (dF a0))),(1,.var 43 (kM [] (dt a1))),(2,.var 189 (kM [.z,.z,.z] (cd d5)))]),6⟩ ?_ ?_
 .exact az Hj
 refine cC H ?_ ?_<;>intro H
 .refine aa H λr6 q6 H=>nA (ca (hF:=Mv.h q6)) ?_
  cases H
  refine dR (aV (o:=6)) ?_
  refine dR (aV (o:=7)) ?_
  refine dR (cz (o:=2)) ?_
  exact bX
 refine aa H λv7 Hj H=>jR ⟨[(2,tP 0),(3,tP 1),(4,tP 2),(5,tP 5),(37,tB v7)],(oM [.w 3,.w 4] 5 93 (dF r4)++[(0,.var 93 (kM [.f,.f] (dF a0))),(1,.var 43 (kM [] (dt a1))),(2,.var 189 (kM [.z,.z,.z] (cd d5)))]),6⟩ ?_ ?_
 .refine gC Hj ?_ ?_<;>intro H
  .refine gC H ?_ ?_<;>intro H
   .refine aa H λr8 q8 H=>nG (ca (hF:=Ha.h q8)) ?_
    refine gC H ?_ ?_<;>intro H
    .refine gC H ?_ ?_<;>intro H
     .refine aa H λr9 q9 H=>nG (ca (hF:=xm.h q9)) ?_
      exact ai H
     exact ai H
    exact ai H
   exact ai H
  exact ai H
 refine cC H ?_ ?_<;>intro H
 .cases H
  refine dR (wB 6 (([]:List aH).length)) ?_
  refine dR (aV (o:=3)) ?_
  refine dR (aV (o:=4)) ?_
  refine dR (cz (o:=2)) ?_
  exact bX
 refine aa H λv10 Hj H=>jR ⟨[(2,tP 0),(3,tP 1),(4,tP 2),(5,tP 5),(69,tB v10)],(oM [.w 3,.w 4] 5 93 (dF r4)++[(0,.var 93 (kM [.f,.f] (dF a0))),(1,.var 43 (kM [] (dt a1))),(2,.var 189 (kM [.z,.z,.z] (cd d5)))]),6⟩ ?_ ?_
 .refine gC Hj ?_ ?_<;>intro H
  .refine gC H ?_ ?_<;>intro H
   .refine gC H ?_ ?_<;>intro H
    .refine gC H ?_ ?_<;>intro H
     .refine aa H λr11 q11 H=>nG (ca (hF:=xm.h q11)) ?_
      exact ai H
     exact ai H
    exact ai H
   exact ai H
  exact ai H
 refine cC H ?_ ?_<;>intro H
 .cases H
  refine dR (wB 6 (([]:List aH).length)) ?_
  refine dR (aV (o:=3)) ?_
  refine dR (aV (o:=4)) ?_
  refine dR (cz (o:=2)) ?_
  exact bX
 refine aa H λv12 Hj H=>jR ⟨[(2,tP 0),(3,tP 1),(4,tP 2),(5,tP 5),(99,tB v12)],(oM [.w 3,.w 4] 5 93 (dF r4)++[(0,.var 93 (kM [.f,.f] (dF a0))),(1,.var 43 (kM [] (dt a1))),(2,.var 189 (kM [.z,.z,.z] (cd d5)))]),6⟩ ?_ ?_
 .exact az Hj
 refine cC H ?_ ?_<;>intro H
 .refine aa H λr13 q13 H=>bG (aV (o:=3)) ?_
  refine bG (aV (o:=4)) ?_
  refine bG (bN (k:=114)) ?_
  refine sA (cwu [] [(210,6)] 7 (FnV.up (Gk q13) rfl rfl)) ?_
  exact ao H
 refine aa H λv14 Hj H=>jR ⟨[(2,tP 0),(4,tP 2),(5,tP 5),(116,tB v14)],(oM [.w 3,.w 4] 5 93 (dF r4)++[(0,.var 93 (kM [.f,.f] (dF a0))),(2,.var 189 (kM [.z,.z,.z] (cd d5)))]),6⟩ ?_ ?_
 .exact az Hj
 refine cC H ?_ ?_<;>intro H
 .refine zI (f4 5) ?_
  refine aa H λr15 q15 H=>zA (ca (hF:=Aw.h q15)) ?_
  refine aa H λr16 q16 H=>zB (an (aV (o:=3)) (an (aV (o:=4)) (bN (k:=126)))) (fQ rfl (cwu [] [(210,6)] 7 (FnV.up (ti q16) rfl rfl))) bK ?_
  refine wA (spx 100464) ?_
  exact ao H
 cases H
 refine dR (wB 6 (([]:List aH).length)) ?_
 refine dR (aV (o:=3)) ?_
 refine dR (aV (o:=4)) ?_
 refine dR (cz (o:=2)) ?_
 exact bX⟩
def uf (a0:aJ) (a1:Int):Option aY:=
 abU (bif eqB a1 a0.bg then(some true) else(abU (du a1 0 5) λr2=>some (!r2))) λ(v1:Bool)=>bif v1 then(abU (th a0) λr3=>some r3) else(abU (kS a0) λr4=>abU (bif eqB a0.bi 2 then(some (ltB a0.aX 999999)) else(some false)) λ(v5:Bool)=>bif v5 then(abU (yx {r4 with bg:=a1}) λr6=>some r6) else(some (⟨{r4 with bg:=a1},([]:List aH)⟩:aY)))
instance He {a0:aJ} {a1:Int} {r:aY}:FC prog (uf a0 a1=some r) 269 [.agg (c9 a0),aI a1] [.agg (qM [.d,.d,.o] (cd r))]:=⟨λH=>by
 refine fI func269 ntmps269 ?_
 refine aa H λv1 Hj H=>jR ⟨[(1,tI a1),(2,tP 0),(4,tP 1),(14,tB v1)],[(0,.var 93 (kM [.f,.f] (dF a0))),(1,.var 189 (kM [.z,.z,.z] (cd d5)))],2⟩ ?_ ?_
 .refine gC Hj ?_ ?_<;>intro H
  .exact ai H
  refine aa H λr2 q2 H=>nG (ca (hF:=nC.h q2)) ?_
  exact ai H
 refine cC H ?_ ?_<;>intro H
 .refine aa H λr3 q3 H=>nA (ca (hF:=wO.h q3)) ?_
  cases H
  refine dR (aV (o:=2)) ?_
  refine dR (aV (o:=3)) ?_
  refine dR (cz (o:=1)) ?_
  exact bX
 refine aa H λr4 q4 H=>nA (ca (hF:=nT.h q4)) ?_
 refine aa H λv5 Hj H=>jR ⟨[(4,tP 1),(5,tP 4),(28,tB v5)],(oM [.w 2,.w 3] 4 93 (dF {r4 with bg:=a1})++[(1,.var 189 (kM [.z,.z,.z] (cd d5)))]),5⟩ ?_ ?_
 .exact az Hj
 refine cC H ?_ ?_<;>intro H
 .refine aa H λr6 q6 H=>bG (aV (o:=2)) ?_
  refine bG (aV (o:=3)) ?_
  refine bG (bN (k:=29)) ?_
  refine sA (cwu [] [(210,5)] 6 (FnV.up (Gk q6) rfl rfl)) ?_
  exact ao H
 cases H
 refine dR (wB 5 (([]:List aH).length)) ?_
 refine dR (aV (o:=2)) ?_
 refine dR (aV (o:=3)) ?_
 refine dR (cz (o:=1)) ?_
 exact bX⟩
end Go.AM
