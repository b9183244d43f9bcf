/- A part. -/
import Derived.Test.YtmginjngmidkbaaGreatS10
set_option linter.unusedVariables false
open Option renaming bind->abU
open List renaming range->hV
namespace Go.AM
open Go.Proofs
open Tryz
attribute [local irreducible] AWN NS AWO AWR AWC DR ea gL
set_option maxRecDepth 100000
set_option maxHeartbeats 40000000
def CU (a0:bm) (a1:ab):Option (dh×bm):=
 abU (Hi 1 (a1.av.length:Int)) λr1=>abU (cI a0 r1) λr2=>abU (cI r2.2 34) λr3=>bif eqB r3.1 0 then(some ({d9 with a8:=5,cF:=r2.1},r3.2)) else(abU (bif eqB r3.1 1 then(some (eqB r3.1 1)) else(some (eqB r3.1 2))) λ(v4:Bool)=>bif v4 then(abU (cI r3.2 (WR ((a1.eo.aX.length:Int)+1))) λr5=>some ((⟨6,r2.1,r5.1,[],eF⟩:dh),r5.2)) else(bif eqB r3.1 3 then(some ({d9 with a8:=7,cF:=r2.1},r3.2)) else(abU (bif eqB r3.1 4 then(some (eqB r3.1 4)) else(some (eqB r3.1 5))) λ(v6:Bool)=>bif v6 then(abU (cI r3.2 4) λr7=>abU (zm r7.2 r7.1) λr8=>some ((⟨8,r2.1,0,r8.1,eF⟩:dh),r8.2)) else(bif eqB r3.1 6 then(abU (cI r3.2 (WR ((a1.eo.aX.length:Int)+1))) λr9=>some ({d9 with a8:=9,cF:=r9.1},r9.2)) else(abU (bif eqB r3.1 7 then(some (eqB r3.1 7)) else(some (eqB r3.1 8))) λ(v10:Bool)=>bif v10 then(abU (cI r3.2 (WR ((a1.eo.aX.length:Int)+1))) λr11=>some ({d9 with a8:=10,cF:=r11.1},r11.2)) else(bif eqB r3.1 9 then(abU (cI r3.2 2) λr12=>some ({d9 with a8:=11,cF:=r12.1},r12.2)) else(bif eqB r3.1 10 then(abU (cI r3.2 2) λr13=>some ({d9 with a8:=12,cF:=r13.1},r13.2)) else(abU (bif eqB r3.1 11 then(some (eqB r3.1 11)) else(some (eqB r3.1 12))) λ(v14:Bool)=>bif v14 then(bif ltB 0 (a1.av.length:Int) then(abU (Aa r3.2 a1) λr15=>some ({r15.1 with bg:=[]},r15.2)) else(abU (bif ltB 0 (a1.aK.length:Int) then(abU (i9 r3.2 4) λr21=>some (!r21.1,r21.2)) else(some (false,r3.2))) λ((v16,v20):Bool×bm)=>bif v16 then(abU (Hk (a1.aK.length:Int) 3) λr22=>abU (cI v20 r22) λr23=>abU (cI r23.2 12) λr24=>bif eqB r24.1 0 then(some ({d9 with a8:=3,cF:=r23.1},r24.2)) else(bif eqB r24.1 1 then(some ({d9 with a8:=4,cF:=r23.1},r24.2)) else(some ({d9 with a8:=2,cF:=r23.1},r24.2)))) else(some ({d9 with a8:=1},v20)))) else(abU (bif ltB 0 (a1.aK.length:Int) then(abU (i9 r3.2 4) λr30=>some (!r30.1,r30.2)) else(some (false,r3.2))) λ((v25,v29):Bool×bm)=>bif v25 then(abU (Hk (a1.aK.length:Int) 3) λr31=>abU (cI v29 r31) λr32=>abU (cI r32.2 12) λr33=>bif eqB r33.1 0 then(some ({d9 with a8:=3,cF:=r32.1},r33.2)) else(bif eqB r33.1 1 then(some ({d9 with a8:=4,cF:=r32.1},r33.2)) else(some ({d9 with a8:=2,cF:=r32.1},r33.2)))) else(some ({d9 with a8:=1},v29)))))))))))
theorem O6 {a0:bm} {a1:ab} {r:dh×bm} (H:CU a0 a1=some r):FnV prog 114 [(200,.var 135 (kM [.f] (ci a0)))] [tP 200,.v (.agg (kM [.f,.f,.f,.f,.f] (aU a1)))] [(200,.var 135 (kM [.f] (ci r.2)))] (.v (.agg (kM [.t,.n 210] (fB r.1)))) [(210,n5 r.1.bS.cz.bz.bg)]:=by
 refine fV func114 ntmps114 ?_
 refine aa H λr1 q1 H=>nA (ca (hF:=DL q1)) ?_
 refine aa H λr2 q2 H=>sA (cw (o:=200) (cp q2)) ?_
 refine aa H λr3 q3 H=>sA (cw (o:=200) (cp q3)) ?_
 refine cC H ?_ ?_<;>intro H
 .cases H
  refine co ((gb (o:=211) (j:=3))) ?_
  refine co ((dY (o:=211) (j:=23) 5 1 true)) ?_
  refine co (wS 212 210) ?_
  refine co ((wB 210 (([]:List Int).length))) ?_
  exact cd
 refine aa H λv4 Hj H=>jA ⟨[(0,tP 200),(3,tP 210),(4,tP 211),(5,tI r2.1),(14,tI r3.1),(19,tB v4)],[(200,.var 135 (kM [.f] (ci r3.2))),(210,.var 34 (kM [.f,.f,.f,.f,.f] (aU a1))),(211,.var 51 (kM [.z,.z] (fB d9)))],212⟩ ?_ ?_
 .exact az Hj
 refine cC H ?_ ?_<;>intro H
 .refine aa H λr5 q5 H=>sA (cw (o:=200) (cp q5)) ?_
  cases H
  refine co ((gb (o:=211) (j:=3))) ?_
  refine co ((dY (o:=211) (j:=23) 5 1 true)) ?_
  refine co (wS 212 210) ?_
  refine co ((wB 210 (([]:List Int).length))) ?_
  exact cd
 refine cC H ?_ ?_<;>intro H
 .cases H
  refine co ((gb (o:=211) (j:=3))) ?_
  refine co ((dY (o:=211) (j:=23) 5 1 true)) ?_
  refine co (wS 212 210) ?_
  refine co ((wB 210 (([]:List Int).length))) ?_
  exact cd
 refine aa H λv6 Hj H=>jA ⟨[(0,tP 200),(3,tP 210),(4,tP 211),(5,tI r2.1),(14,tI r3.1),(35,tB v6)],[(200,.var 135 (kM [.f] (ci r3.2))),(210,.var 34 (kM [.f,.f,.f,.f,.f] (aU a1))),(211,.var 51 (kM [.z,.z] (fB d9)))],212⟩ ?_ ?_
 .exact az Hj
 refine cC H ?_ ?_<;>intro H
 .refine aa H λr7 q7 H=>sA (cw (o:=200) (cp q7)) ?_
  refine aa H λr8 q8 H=>sA (cw (o:=200) (HC q8)) ?_
  cases H
  refine co ((bb (o:=212))) ?_
  refine co ((b7 (k:=42))) ?_
  refine co ((b7 (k:=43))) ?_
  refine co ((cL (o:=211))) ?_
  refine co ((dY (o:=211) (j:=23) 5 1 true)) ?_
  refine co (wS 213 210) ?_
  refine co ((wB 210 (([]:List Int).length))) ?_
  exact cd
 refine cC H ?_ ?_<;>intro H
 .refine aa H λr9 q9 H=>sA (cw (o:=200) (cp q9)) ?_
  cases H
  refine co ((gb (o:=211) (j:=3))) ?_
  refine co ((dY (o:=211) (j:=23) 5 1 true)) ?_
  refine co (wS 212 210) ?_
  refine co ((wB 210 (([]:List Int).length))) ?_
  exact cd
 refine aa H λv10 Hj H=>jA ⟨[(0,tP 200),(3,tP 210),(4,tP 211),(14,tI r3.1),(54,tB v10)],[(200,.var 135 (kM [.f] (ci r3.2))),(210,.var 34 (kM [.f,.f,.f,.f,.f] (aU a1))),(211,.var 51 (kM [.z,.z] (fB d9)))],212⟩ ?_ ?_
 .exact az Hj
 refine cC H ?_ ?_<;>intro H
 .refine aa H λr11 q11 H=>sA (cw (o:=200) (cp q11)) ?_
  cases H
  refine co ((gb (o:=211) (j:=3))) ?_
  refine co ((dY (o:=211) (j:=23) 5 1 true)) ?_
  refine co (wS 212 210) ?_
  refine co ((wB 210 (([]:List Int).length))) ?_
  exact cd
 refine cC H ?_ ?_<;>intro H
 .refine aa H λr12 q12 H=>sA (cw (o:=200) (cp q12)) ?_
  cases H
  refine co ((gb (o:=211) (j:=3))) ?_
  refine co ((dY (o:=211) (j:=23) 5 1 true)) ?_
  refine co (wS 212 210) ?_
  refine co ((wB 210 (([]:List Int).length))) ?_
  exact cd
 refine cC H ?_ ?_<;>intro H
 .refine aa H λr13 q13 H=>sA (cw (o:=200) (cp q13)) ?_
  cases H
  refine co ((gb (o:=211) (j:=3))) ?_
  refine co ((dY (o:=211) (j:=23) 5 1 true)) ?_
  refine co (wS 212 210) ?_
  refine co ((wB 210 (([]:List Int).length))) ?_
  exact cd
 refine aa H λv14 Hj H=>jA ⟨[(0,tP 200),(3,tP 210),(4,tP 211),(75,tB v14)],[(200,.var 135 (kM [.f] (ci r3.2))),(210,.var 34 (kM [.f,.f,.f,.f,.f] (aU a1))),(211,.var 51 (kM [.z,.z] (fB d9)))],212⟩ ?_ ?_
 .exact az Hj
 refine cC H ?_ ?_<;>intro H
 .refine cC H ?_ ?_<;>intro H
  .refine aa H λr15 q15 H=>sA (cwv [(200,200)] [(210,212)] 213 (Nq q15)) ?_
   cases H
   refine co ((gb (o:=211) (j:=3))) ?_
   refine co (wS 212 210) ?_
   exact cd
  obtain⟨⟨v16,v20⟩,Hj,H⟩:=ob H
  refine jR ⟨[(0,tP 200),(3,tP 210),(4,tP 211),(93,tB v16)],[(200,.var 135 (kM [.f] (ci v20))),(210,.var 34 (kM [.f,.f,.f,.f,.f] (aU a1))),(211,.var 51 (kM [.z,.z] (fB d9)))],212⟩ ?_ ?_
  .refine gC Hj ?_ ?_<;>intro H
   .refine aa H λr21 q21 H=>sG (cw (o:=200) (iQ q21)) ?_
    exact ai H
   exact ai H
  refine cC H ?_ ?_<;>intro H
  .refine aa H λr22 q22 H=>nA (ca (hF:=DM q22)) ?_
   refine aa H λr23 q23 H=>sA (cw (o:=200) (cp q23)) ?_
   refine aa H λr24 q24 H=>sA (cw (o:=200) (cp q24)) ?_
   refine cC H ?_ ?_<;>intro H
   .cases H
    refine co ((gb (o:=211) (j:=3))) ?_
    refine co ((dY (o:=211) (j:=23) 5 1 true)) ?_
    refine co (wS 212 210) ?_
    refine co ((wB 210 (([]:List Int).length))) ?_
    exact cd
   refine cC H ?_ ?_<;>intro H
   .cases H
    refine co ((gb (o:=211) (j:=3))) ?_
    refine co ((dY (o:=211) (j:=23) 5 1 true)) ?_
    refine co (wS 212 210) ?_
    refine co ((wB 210 (([]:List Int).length))) ?_
    exact cd
   cases H
   refine co ((gb (o:=211) (j:=3))) ?_
   refine co ((dY (o:=211) (j:=23) 5 1 true)) ?_
   refine co (wS 212 210) ?_
   refine co ((wB 210 (([]:List Int).length))) ?_
   exact cd
  cases H
  refine co ((gb (o:=211) (j:=3))) ?_
  refine co ((dY (o:=211) (j:=23) 5 1 true)) ?_
  refine co (wS 212 210) ?_
  refine co ((wB 210 (([]:List Int).length))) ?_
  exact cd
 obtain⟨⟨v25,v29⟩,Hj,H⟩:=ob H
 refine jR ⟨[(0,tP 200),(3,tP 210),(4,tP 211),(93,tB v25)],[(200,.var 135 (kM [.f] (ci v29))),(210,.var 34 (kM [.f,.f,.f,.f,.f] (aU a1))),(211,.var 51 (kM [.z,.z] (fB d9)))],212⟩ ?_ ?_
 .refine gC Hj ?_ ?_<;>intro H
  .refine aa H λr30 q30 H=>sG (cw (o:=200) (iQ q30)) ?_
   exact ai H
  exact ai H
 refine cC H ?_ ?_<;>intro H
 .refine aa H λr31 q31 H=>nA (ca (hF:=DM q31)) ?_
  refine aa H λr32 q32 H=>sA (cw (o:=200) (cp q32)) ?_
  refine aa H λr33 q33 H=>sA (cw (o:=200) (cp q33)) ?_
  refine cC H ?_ ?_<;>intro H
  .cases H
   refine co ((gb (o:=211) (j:=3))) ?_
   refine co ((dY (o:=211) (j:=23) 5 1 true)) ?_
   refine co (wS 212 210) ?_
   refine co ((wB 210 (([]:List Int).length))) ?_
   exact cd
  refine cC H ?_ ?_<;>intro H
  .cases H
   refine co ((gb (o:=211) (j:=3))) ?_
   refine co ((dY (o:=211) (j:=23) 5 1 true)) ?_
   refine co (wS 212 210) ?_
   refine co ((wB 210 (([]:List Int).length))) ?_
   exact cd
  cases H
  refine co ((gb (o:=211) (j:=3))) ?_
  refine co ((dY (o:=211) (j:=23) 5 1 true)) ?_
  refine co (wS 212 210) ?_
  refine co ((wB 210 (([]:List Int).length))) ?_
  exact cd
 cases H
 refine co ((gb (o:=211) (j:=3))) ?_
 refine co ((dY (o:=211) (j:=23) 5 1 true)) ?_
 refine co (wS 212 210) ?_
 refine co ((wB 210 (([]:List Int).length))) ?_
 exact cd
def ut:(Int×ab)->Option (cq (Int×ab) (ab))
 |(v1,v12)=>bif ltB v1 (v12.av.length:Int) then(abU (ix v12.av v1) λx27=>abU (uc x27) λr28=>abU (jh v12 v1 r28) λr29=>some (.next (WR (v1+1),r29))) else(some (.done v12))
def nH (v30:Int) (r88:bZ):(Int×ab)->Option (cq (Int×ab) (ab))
 |(v92,v103)=>bif ltB v92 (r88.cz.length:Int) then(abU (ix r88.cz v92) λx117=>abU (gk v103 (⟨v30,false,true,r88.aZ.be,dQ,x117⟩:bF)) λr118=>some (.next (WR (v92+1),r118))) else(some (.done v103))
def uu:(Int×ab)->Option (cq (Int×ab) (ab))
 |(v30,v41)=>bif ltB v30 (v41.aF.length:Int) then(abU (ix v41.aF v30) λx86=>abU (ix v41.bG v30) λx87=>abU (rL x86 x87 v41.eo) λr88=>abU (ix v41.aF v30) λx89=>abU (ix v41.bG v30) λx90=>abU (lG {v41 with aF:=(v41.aF.set (v30).toNat r88.aZ),bG:=(v41.bG.set (v30).toNat r88.eL)} v30 false r88.kF) λr91=>abU (iter (nH v30 r88) FU (0,r91)) λ(v116:ab)=>some (.next (WR (v30+1),v116))) else(some (.done v41))
def CX (a0:ab):Option (Bool×ab):=
 bif leB 100000 a0.qz then(some (false,a0)) else(abU (iter (ut) FU (0,{a0 with qz:=WR (a0.qz+1)})) λ(v26:ab)=>abU (iter (uu) FU (0,v26)) λ(v85:ab)=>some (true,v85))
theorem O7 {a0:ab} {r:Bool×ab} (H:CX a0=some r):FnV prog 191 (nS a0) [tP 200] (nS r.2) (.v (.c (.d false (.b r.1)))) []:=by
 refine fV func191 ntmps191 ?_
 refine cC H ?_ ?_<;>intro H
 .cases H
  exact cd
 refine aa H λv26 Hj H=>jB ⟨[(0,tP 200)],(nS v26),210⟩ ?_ ?_
 .refine iT Hj (λq=>⟨[(0,tP 200),(3,tI q.1)],(nS q.2),210⟩) ?_
  rintro⟨v1,v12⟩ o H
  refine ad ?_
  refine cC H ?_ ?_<;>intro H
  .refine aa H λx27 hx27 H=>bQ (lI 190 (hne:=yH (enc:=cS) hx27)) ?_
   refine nA (xwT hx27) ?_
   refine nA (oea (he:=f7 _ hx27)) ?_
   refine aa H λr28 q28 H=>nA (ca (hF:=IA q28)) ?_
   refine aa H λr29 q29 H=>bQ (bb (o:=210)) ?_
   refine bQ (b7 (k:=38)) ?_
   refine bQ (ee 190) ?_
   refine sA (cwu m0 [] 211 (o8 q29)) ?_
   exact aN H
  exact aE H
 refine aa H λv85 Hj H=>jB ⟨[],(nS v85),210⟩ ?_ ?_
 .refine iT Hj (λq=>⟨[(0,tP 200),(4,tI q.1)],(nS q.2),210⟩) ?_
  rintro⟨v30,v41⟩ o H
  refine ad ?_
  refine cC H ?_ ?_<;>intro H
  .refine zI (hV 21) ?_
   refine aa H λx86 hx86 H=>zA (qy hx86) ?_
   refine zA (KP (he:=f7 _ hx86)) ?_
   refine aa H λx87 hx87 H=>zA (qy hx87) ?_
   refine zA (KP (he:=f7 _ hx87)) ?_
   refine aa H λr88 q88 H=>zA (ca (hF:=Hv q88)) ?_
   refine wA (spx 100408) ?_
   refine zI (hV 9) ?_
   refine aa H λx89 hx89 H=>zA (qy hx89) ?_
   refine zB (aq (bb (o:=210)) (aq (bb (o:=211)) (aq (bb (o:=212)) (aq (b7 (k:=74)) (lI 191 (hne:=yH (enc:=bU) hx89)))))) (gG rfl (soT (enc:=bU) (a':=r88.aZ) hx89)) b8 ?_
   refine zI (hV 9) ?_
   refine aa H λx90 hx90 H=>zA (qy hx90) ?_
   refine zB (aq (bb (o:=213)) (aq (b7 (k:=82)) (lI 192 (hne:=yH (enc:=cN) hx90)))) (gG rfl (soT (enc:=cN) (a':=r88.eL) hx90)) b8 ?_
   refine aa H λr91 q91 H=>bQ (bb (o:=214)) ?_
   refine bQ (b7 (k:=87)) ?_
   refine bQ (ee 191) ?_
   refine bQ (ee 192) ?_
   refine bQ (wB 191 ((v41.aF.set (v30).toNat r88.aZ).length)) ?_
   refine bQ (wB 192 ((v41.bG.set (v30).toNat r88.eL).length)) ?_
   refine sA (cwu m0 [] 217 (uY q91)) ?_
   refine aa H λv116 Hj H=>jB ⟨[(0,tP 200),(4,tI v30)],(nS v116),210⟩ ?_ ?_
   .refine iT Hj (λq=>⟨[(0,tP 200),(4,tI v30),(5,tP 216),(6,tI q.1)],(nS q.2++[(210,w3 r88.aZ.gF.bC true false),(211,V9 r88.aZ.aM true false),(212,NH r88.aZ.ax.aw true false),(213,w115 r88.eL.aj true false),(214,w43 r88.kF true false),(215,w47 r88.cz),(216,.var 195 (kM [.w 210,.w 211,.w 212,.w 213,.w 214,.w 215] (cY r88)))]),217⟩) ?_
    rintro⟨v92,v103⟩ o H
    refine ad ?_
    refine cC H ?_ ?_<;>intro H
    .refine zI (hV 12) ?_
     refine aa H λx117 hx117 H=>zA (xwT hx117) ?_
     refine zA (oea (he:=f7 _ hx117)) ?_
     refine aa H λr118 q118 H=>zB b8 (gG rfl (cwu m0 [] 217 (tc q118))) b8 ?_
     exact aN H
    exact aE H
   exact aN H
  exact aE H
 cases H
 exact cd
def oV (a0:ah) (a1:aD):Option bI:=
 abU (lD a1) λr1=>bif !r1 then(abU (o4 a0) λr2=>some r2) else(bif eqB a1.a8 1 then(abU (oS a0 a1) λr3=>some r3) else(bif eqB a1.a8 3 then(abU (lS a0 a1) λr4=>some r4) else(bif eqB a1.a8 5 then(abU (jU a0 a1) λr5=>some r5) else(bif eqB a1.a8 8 then(abU (mU a0 a1) λr6=>some r6) else(abU (o4 a0) λr7=>some r7)))))
theorem DT {a0:ah} {a1:aD} {r:bI} (H:oV a0 a1=some r):Fn prog 326 [.agg (bU a0),.agg (c9 a1)] [.agg (qM [.d,.d,.d,.o] (cK r))]:=by
 refine fI func326 ntmps326 ?_
 refine aa H λr1 q1 H=>nA (ca (hF:=vE q1)) ?_
 refine cC H ?_ ?_<;>intro H
 .refine aa H λr2 q2 H=>nA (ca (hF:=pI q2)) ?_
  cases H
  refine du (bb (o:=3)) ?_
  refine du (bb (o:=4)) ?_
  refine du (bb (o:=5)) ?_
  refine du (cL (o:=2)) ?_
  exact dW
 refine cC H ?_ ?_<;>intro H
 .refine aa H λr3 q3 H=>nA (ca (hF:=DN q3)) ?_
  cases H
  refine du (bb (o:=3)) ?_
  refine du (bb (o:=4)) ?_
  refine du (bb (o:=5)) ?_
  refine du (cL (o:=2)) ?_
  exact dW
 refine cC H ?_ ?_<;>intro H
 .refine aa H λr4 q4 H=>nA (ca (hF:=Bi q4)) ?_
  exact ao H
 refine cC H ?_ ?_<;>intro H
 .refine aa H λr5 q5 H=>nA (ca (hF:=zf q5)) ?_
  exact ao H
 refine cC H ?_ ?_<;>intro H
 .refine aa H λr6 q6 H=>nA (ca (hF:=Cv q6)) ?_
  cases H
  refine du (bb (o:=3)) ?_
  refine du (bb (o:=4)) ?_
  refine du (bb (o:=5)) ?_
  refine du (cL (o:=2)) ?_
  exact dW
 refine aa H λr7 q7 H=>nA (ca (hF:=pI q7)) ?_
 cases H
 refine du (bb (o:=3)) ?_
 refine du (bb (o:=4)) ?_
 refine du (bb (o:=5)) ?_
 refine du (cL (o:=2)) ?_
 exact dW
def oU (a0:aJ) (a1:aD):Option a9:=
 abU (lD a1) λr1=>abU (bif !r1 then(some true) else(bif !eqB a1.be a0.be then(some true) else(some (eqB a0.bj 0)))) λ(v2:Bool)=>bif v2 then(abU (s5 a0) λr3=>some r3) else(abU (kv a0) λr4=>abU (bif eqB a1.a8 2 then(some (eqB a0.bj 1)) else(some false)) λ(v5:Bool)=>bif v5 then(abU (z7 a0 a1) λr6=>some r6) else(abU (bif eqB a1.a8 4 then(bif eqB a0.bj 1 then(abU (im a0.aV) λr8=>bif r8 then(bif eqB a1.ag a0.ag then(abU (it a0.aV a1) λr9=>some r9) else(some false)) else(some false)) else(some false)) else(some false)) λ(v7:Bool)=>bif v7 then(some (⟨{r4 with bj:=2,aT:=a1.aT,cj:=true},([]:List aD)⟩:a9)) else(abU (bif eqB a1.a8 6 then(bif eqB a0.bj 2 then(bif eqB a1.ag a0.ag then(bif eqB a1.aT a0.aT then(abU (it a0.aV a1) λr11=>some r11) else(some false)) else(some false)) else(some false)) else(some false)) λ(v10:Bool)=>bif v10 then(some (⟨{r4 with cj:=true},([]:List aD)⟩:a9)) else(abU (bif eqB a1.a8 7 then(bif eqB a0.bj 3 then(some (ltB a0.aT 999999)) else(some false)) else(some false)) λ(v12:Bool)=>bif v12 then(abU (zo {r4 with bj:=2}) λr13=>some r13) else(abU (bif eqB a1.a8 7 then(some (eqB a0.bj 2)) else(some false)) λ(v14:Bool)=>bif v14 then(abU (vN a0) λr15=>abU (mH {r4 with cj:=false} r15) λr16=>some r16) else(some (⟨r4,([]:List aD)⟩:a9)))))))
theorem DQ {a0:aJ} {a1:aD} {r:a9} (H:oU a0 a1=some r):Fn prog 328 [.agg (cS a0),.agg (c9 a1)] [.agg (qM [.d,.d,.o] (cf r))]:=by
 refine fI func328 ntmps328 ?_
 refine aa H λr1 q1 H=>nA (ca (hF:=vE q1)) ?_
 refine aa H λv2 Hj H=>jR ⟨[(2,tP 0),(3,tP 1),(4,tP 2),(20,tB v2)],[(0,.var 93 (kM [.f,.f] (dt a0))),(1,.var 43 (kM [] (cP a1))),(2,.var 189 (kM [.z,.z,.z] (cf dZ)))],3⟩ ?_ ?_
 .exact az Hj
 refine cC H ?_ ?_<;>intro H
 .refine aa H λr3 q3 H=>nA (ca (hF:=w8 q3)) ?_
  cases H
  refine du (bb (o:=3)) ?_
  refine du (bb (o:=4)) ?_
  refine du (cL (o:=2)) ?_
  exact dW
 refine aa H λr4 q4 H=>nA (ca (hF:=jV q4)) ?_
 refine aa H λv5 Hj H=>jR ⟨[(2,tP 0),(3,tP 1),(4,tP 2),(5,tP 5),(25,tB v5)],(oM [.w 3,.w 4] 5 93 (dt r4)++[(0,.var 93 (kM [.f,.f] (dt a0))),(1,.var 43 (kM [] (cP a1))),(2,.var 189 (kM [.z,.z,.z] (cf dZ)))]),6⟩ ?_ ?_
 .exact az Hj
 refine cC H ?_ ?_<;>intro H
 .refine aa H λr6 q6 H=>nA (ca (hF:=No q6)) ?_
  cases H
  refine du (bb (o:=6)) ?_
  refine du (bb (o:=7)) ?_
  refine du (cL (o:=2)) ?_
  exact dW
 refine aa H λv7 Hj H=>jR ⟨[(2,tP 0),(3,tP 1),(4,tP 2),(5,tP 5),(37,tB v7)],(oM [.w 3,.w 4] 5 93 (dt r4)++[(0,.var 93 (kM [.f,.f] (dt a0))),(1,.var 43 (kM [] (cP a1))),(2,.var 189 (kM [.z,.z,.z] (cf dZ)))]),6⟩ ?_ ?_
 .refine gC Hj ?_ ?_<;>intro H
  .refine gC H ?_ ?_<;>intro H
   .refine aa H λr8 q8 H=>nG (ca (hF:=jg q8)) ?_
    refine gC H ?_ ?_<;>intro H
    .refine gC H ?_ ?_<;>intro H
     .refine aa H λr9 q9 H=>nG (ca (hF:=ku q9)) ?_
      exact ai H
     exact ai H
    exact ai H
   exact ai H
  exact ai H
 refine cC H ?_ ?_<;>intro H
 .cases H
  refine du (wB 6 (([]:List aD).length)) ?_
  refine du (bb (o:=3)) ?_
  refine du (bb (o:=4)) ?_
  refine du (cL (o:=2)) ?_
  exact dW
 refine aa H λv10 Hj H=>jR ⟨[(2,tP 0),(3,tP 1),(4,tP 2),(5,tP 5),(69,tB v10)],(oM [.w 3,.w 4] 5 93 (dt r4)++[(0,.var 93 (kM [.f,.f] (dt a0))),(1,.var 43 (kM [] (cP a1))),(2,.var 189 (kM [.z,.z,.z] (cf dZ)))]),6⟩ ?_ ?_
 .refine gC Hj ?_ ?_<;>intro H
  .refine gC H ?_ ?_<;>intro H
   .refine gC H ?_ ?_<;>intro H
    .refine gC H ?_ ?_<;>intro H
     .refine aa H λr11 q11 H=>nG (ca (hF:=ku q11)) ?_
      exact ai H
     exact ai H
    exact ai H
   exact ai H
  exact ai H
 refine cC H ?_ ?_<;>intro H
 .cases H
  refine du (wB 6 (([]:List aD).length)) ?_
  refine du (bb (o:=3)) ?_
  refine du (bb (o:=4)) ?_
  refine du (cL (o:=2)) ?_
  exact dW
 refine aa H λv12 Hj H=>jR ⟨[(2,tP 0),(3,tP 1),(4,tP 2),(5,tP 5),(99,tB v12)],(oM [.w 3,.w 4] 5 93 (dt r4)++[(0,.var 93 (kM [.f,.f] (dt a0))),(1,.var 43 (kM [] (cP a1))),(2,.var 189 (kM [.z,.z,.z] (cf dZ)))]),6⟩ ?_ ?_
 .exact az Hj
 refine cC H ?_ ?_<;>intro H
 .refine aa H λr13 q13 H=>bQ (bb (o:=3)) ?_
  refine bQ (bb (o:=4)) ?_
  refine bQ (b7 (k:=114)) ?_
  refine sA (cwu [] [(210,6)] 7 (FnV.up (HG q13) rfl rfl)) ?_
  exact ao H
 refine aa H λv14 Hj H=>jR ⟨[(2,tP 0),(4,tP 2),(5,tP 5),(116,tB v14)],(oM [.w 3,.w 4] 5 93 (dt r4)++[(0,.var 93 (kM [.f,.f] (dt a0))),(2,.var 189 (kM [.z,.z,.z] (cf dZ)))]),6⟩ ?_ ?_
 .exact az Hj
 refine cC H ?_ ?_<;>intro H
 .refine zI (hV 5) ?_
  refine aa H λr15 q15 H=>zA (ca (hF:=Bq q15)) ?_
  refine aa H λr16 q16 H=>zB (aq (bb (o:=3)) (aq (bb (o:=4)) (b7 (k:=126)))) (gG rfl (cwu [] [(210,6)] 7 (FnV.up (s6 q16) rfl rfl))) b8 ?_
  refine wA (spx 100464) ?_
  exact ao H
 cases H
 refine du (wB 6 (([]:List aD).length)) ?_
 refine du (bb (o:=3)) ?_
 refine du (bb (o:=4)) ?_
 refine du (cL (o:=2)) ?_
 exact dW
def tW (a0:aJ) (a1:Int):Option a9:=
 abU (bif eqB a1 a0.be then(some true) else(abU (dB a1 0 5) λr2=>some (!r2))) λ(v1:Bool)=>bif v1 then(abU (s5 a0) λr3=>some r3) else(abU (kv a0) λr4=>abU (bif eqB a0.bj 2 then(some (ltB a0.aT 999999)) else(some false)) λ(v5:Bool)=>bif v5 then(abU (zo {r4 with be:=a1}) λr6=>some r6) else(some (⟨{r4 with be:=a1},([]:List aD)⟩:a9)))
theorem Ix {a0:aJ} {a1:Int} {r:a9} (H:tW a0 a1=some r):Fn prog 269 [.agg (cS a0),aI a1] [.agg (qM [.d,.d,.o] (cf r))]:=by
 refine fI func269 ntmps269 ?_
 refine aa H λv1 Hj H=>jR ⟨[(1,tI a1),(2,tP 0),(4,tP 1),(14,tB v1)],[(0,.var 93 (kM [.f,.f] (dt a0))),(1,.var 189 (kM [.z,.z,.z] (cf dZ)))],2⟩ ?_ ?_
 .refine gC Hj ?_ ?_<;>intro H
  .exact ai H
  refine aa H λr2 q2 H=>nG (ca (hF:=cm q2)) ?_
  exact ai H
 refine cC H ?_ ?_<;>intro H
 .refine aa H λr3 q3 H=>nA (ca (hF:=w8 q3)) ?_
  cases H
  refine du (bb (o:=2)) ?_
  refine du (bb (o:=3)) ?_
  refine du (cL (o:=1)) ?_
  exact dW
 refine aa H λr4 q4 H=>nA (ca (hF:=jV q4)) ?_
 refine aa H λv5 Hj H=>jR ⟨[(4,tP 1),(5,tP 4),(28,tB v5)],(oM [.w 2,.w 3] 4 93 (dt {r4 with be:=a1})++[(1,.var 189 (kM [.z,.z,.z] (cf dZ)))]),5⟩ ?_ ?_
 .exact az Hj
 refine cC H ?_ ?_<;>intro H
 .refine aa H λr6 q6 H=>bQ (bb (o:=2)) ?_
  refine bQ (bb (o:=3)) ?_
  refine bQ (b7 (k:=29)) ?_
  refine sA (cwu [] [(210,5)] 6 (FnV.up (HG q6) rfl rfl)) ?_
  exact ao H
 cases H
 refine du (wB 5 (([]:List aD).length)) ?_
 refine du (bb (o:=2)) ?_
 refine du (bb (o:=3)) ?_
 refine du (cL (o:=1)) ?_
 exact dW
end Go.AM
