/- A part. -/
import Derived.Test.YtcfhabdgiieejaaGreatS9
set_option linter.unusedVariables false
open Option renaming bind->abJ
namespace Go.AM
open Go.Proofs
open Tryz
attribute [local irreducible] AWN NS AWO AWR AWC DR DZ dQ f9 iter
set_option maxRecDepth 100000
set_option maxHeartbeats 40000000
def BM (a0:bk) (a1:ab):Option (cX×bk):=
 abJ (FB 1 (a1.aw.length:Int)) λr1=>abJ (cH a0 r1) λr2=>abJ (cH r2.2 34) λr3=>bif eqB r3.1 0 then(some ({ed with a8:=5,cB:=r2.1},r3.2)) else(abJ (bif eqB r3.1 1 then(some (eqB r3.1 1)) else(some (eqB r3.1 2))) λ(v4:Bool)=>bif v4 then(abJ (cH r3.2 (WR ((a1.ev.bb.length:Int)+1))) λr5=>some ((⟨6,r2.1,r5.1,[],fM⟩:cX),r5.2)) else(bif eqB r3.1 3 then(some ({ed with a8:=7,cB:=r2.1},r3.2)) else(abJ (bif eqB r3.1 4 then(some (eqB r3.1 4)) else(some (eqB r3.1 5))) λ(v6:Bool)=>bif v6 then(abJ (cH r3.2 4) λr7=>abJ (yz r7.2 r7.1) λr8=>some ((⟨8,r2.1,0,r8.1,fM⟩:cX),r8.2)) else(bif eqB r3.1 6 then(abJ (cH r3.2 (WR ((a1.ev.bb.length:Int)+1))) λr9=>some ({ed with a8:=9,cB:=r9.1},r9.2)) else(abJ (bif eqB r3.1 7 then(some (eqB r3.1 7)) else(some (eqB r3.1 8))) λ(v10:Bool)=>bif v10 then(abJ (cH r3.2 (WR ((a1.ev.bb.length:Int)+1))) λr11=>some ({ed with a8:=10,cB:=r11.1},r11.2)) else(bif eqB r3.1 9 then(abJ (cH r3.2 2) λr12=>some ({ed with a8:=11,cB:=r12.1},r12.2)) else(bif eqB r3.1 10 then(abJ (cH r3.2 2) λr13=>some ({ed with a8:=12,cB:=r13.1},r13.2)) else(abJ (bif eqB r3.1 11 then(some (eqB r3.1 11)) else(some (eqB r3.1 12))) λ(v14:Bool)=>bif v14 then(bif ltB 0 (a1.aw.length:Int) then(abJ (zk r3.2 a1) λr15=>some ({r15.1 with a9:=[]},r15.2)) else(abJ (bif ltB 0 (a1.aT.length:Int) then(abJ (i8 r3.2 4) λr21=>some (!r21.1,r21.2)) else(some (false,r3.2))) λ((v16,v20):Bool×bk)=>bif v16 then(abJ (FD (a1.aT.length:Int) 3) λr22=>abJ (cH v20 r22) λr23=>abJ (cH r23.2 12) λr24=>bif eqB r24.1 0 then(some ({ed with a8:=3,cB:=r23.1},r24.2)) else(bif eqB r24.1 1 then(some ({ed with a8:=4,cB:=r23.1},r24.2)) else(some ({ed with a8:=2,cB:=r23.1},r24.2)))) else(some ({ed with a8:=1},v20)))) else(abJ (bif ltB 0 (a1.aT.length:Int) then(abJ (i8 r3.2 4) λr30=>some (!r30.1,r30.2)) else(some (false,r3.2))) λ((v25,v29):Bool×bk)=>bif v25 then(abJ (FD (a1.aT.length:Int) 3) λr31=>abJ (cH v29 r31) λr32=>abJ (cH r32.2 12) λr33=>bif eqB r33.1 0 then(some ({ed with a8:=3,cB:=r32.1},r33.2)) else(bif eqB r33.1 1 then(some ({ed with a8:=4,cB:=r32.1},r33.2)) else(some ({ed with a8:=2,cB:=r32.1},r33.2)))) else(some ({ed with a8:=1},v29)))))))))))
instance N9 {a0:bk} {a1:ab} {r:cX×bk}:FCV prog (BM a0 a1=some r) 81 [(200,.var 125 (kM [.f] (cj a0)))] [tP 200,.v (.agg (kM [.f,.f,.f,.f,.f] (bw a1)))] [(200,.var 125 (kM [.f] (cj r.2)))] (.v (.agg (kM [.t,.n 210] (dV r.1)))) [(210,n5 r.1.bD.co.bz.a9)]:=⟨λH=>by
 refine fV func81 ntmps81 ?_
 refine aa H λr1 q1 H=>nA (ca (hF:=VE.h q1)) ?_
 refine aa H λr2 q2 H=>sA (cw (o:=200) (cm q2)) ?_
 refine aa H λr3 q3 H=>sA (cw (o:=200) (cm q3)) ?_
 refine cC H ?_ ?_<;>intro H
 .cases H
  refine bA ((fy (o:=211) (j:=3))) ?_
  refine bA ((dE (o:=211) (j:=23) 5 1 true)) ?_
  refine bA (wS 212 210) ?_
  refine bA ((wB 210 (([]:List Int).length))) ?_
  exact bj
 refine aa H λv4 Hj H=>jA ⟨[(0,tP 200),(3,tP 210),(4,tP 211),(5,tI r2.1),(14,tI r3.1),(19,tB v4)],[(200,.var 125 (kM [.f] (cj r3.2))),(210,.var 34 (kM [.f,.f,.f,.f,.f] (bw a1))),(211,.var 50 (kM [.z,.z] (dV ed)))],212⟩ ?_ ?_
 .exact az Hj
 refine cC H ?_ ?_<;>intro H
 .refine aa H λr5 q5 H=>sA (cw (o:=200) (cm q5)) ?_
  cases H
  refine bA ((fy (o:=211) (j:=3))) ?_
  refine bA ((dE (o:=211) (j:=23) 5 1 true)) ?_
  refine bA (wS 212 210) ?_
  refine bA ((wB 210 (([]:List Int).length))) ?_
  exact bj
 refine cC H ?_ ?_<;>intro H
 .cases H
  refine bA ((fy (o:=211) (j:=3))) ?_
  refine bA ((dE (o:=211) (j:=23) 5 1 true)) ?_
  refine bA (wS 212 210) ?_
  refine bA ((wB 210 (([]:List Int).length))) ?_
  exact bj
 refine aa H λv6 Hj H=>jA ⟨[(0,tP 200),(3,tP 210),(4,tP 211),(5,tI r2.1),(14,tI r3.1),(35,tB v6)],[(200,.var 125 (kM [.f] (cj r3.2))),(210,.var 34 (kM [.f,.f,.f,.f,.f] (bw a1))),(211,.var 50 (kM [.z,.z] (dV ed)))],212⟩ ?_ ?_
 .exact az Hj
 refine cC H ?_ ?_<;>intro H
 .refine aa H λr7 q7 H=>sA (cw (o:=200) (cm q7)) ?_
  refine aa H λr8 q8 H=>sA (cw (o:=200) (F2 q8)) ?_
  cases H
  refine bA ((bv (o:=212))) ?_
  refine bA ((bH (k:=42))) ?_
  refine bA ((bH (k:=43))) ?_
  refine bA ((de (o:=211))) ?_
  refine bA ((dE (o:=211) (j:=23) 5 1 true)) ?_
  refine bA (wS 213 210) ?_
  refine bA ((wB 210 (([]:List Int).length))) ?_
  exact bj
 refine cC H ?_ ?_<;>intro H
 .refine aa H λr9 q9 H=>sA (cw (o:=200) (cm q9)) ?_
  cases H
  refine bA ((fy (o:=211) (j:=3))) ?_
  refine bA ((dE (o:=211) (j:=23) 5 1 true)) ?_
  refine bA (wS 212 210) ?_
  refine bA ((wB 210 (([]:List Int).length))) ?_
  exact bj
 refine aa H λv10 Hj H=>jA ⟨[(0,tP 200),(3,tP 210),(4,tP 211),(14,tI r3.1),(54,tB v10)],[(200,.var 125 (kM [.f] (cj r3.2))),(210,.var 34 (kM [.f,.f,.f,.f,.f] (bw a1))),(211,.var 50 (kM [.z,.z] (dV ed)))],212⟩ ?_ ?_
 .exact az Hj
 refine cC H ?_ ?_<;>intro H
 .refine aa H λr11 q11 H=>sA (cw (o:=200) (cm q11)) ?_
  cases H
  refine bA ((fy (o:=211) (j:=3))) ?_
  refine bA ((dE (o:=211) (j:=23) 5 1 true)) ?_
  refine bA (wS 212 210) ?_
  refine bA ((wB 210 (([]:List Int).length))) ?_
  exact bj
 refine cC H ?_ ?_<;>intro H
 .refine aa H λr12 q12 H=>sA (cw (o:=200) (cm q12)) ?_
  cases H
  refine bA ((fy (o:=211) (j:=3))) ?_
  refine bA ((dE (o:=211) (j:=23) 5 1 true)) ?_
  refine bA (wS 212 210) ?_
  refine bA ((wB 210 (([]:List Int).length))) ?_
  exact bj
 refine cC H ?_ ?_<;>intro H
 .refine aa H λr13 q13 H=>sA (cw (o:=200) (cm q13)) ?_
  cases H
  refine bA ((fy (o:=211) (j:=3))) ?_
  refine bA ((dE (o:=211) (j:=23) 5 1 true)) ?_
  refine bA (wS 212 210) ?_
  refine bA ((wB 210 (([]:List Int).length))) ?_
  exact bj
 refine aa H λv14 Hj H=>jA ⟨[(0,tP 200),(3,tP 210),(4,tP 211),(75,tB v14)],[(200,.var 125 (kM [.f] (cj r3.2))),(210,.var 34 (kM [.f,.f,.f,.f,.f] (bw a1))),(211,.var 50 (kM [.z,.z] (dV ed)))],212⟩ ?_ ?_
 .exact az Hj
 refine cC H ?_ ?_<;>intro H
 .refine cC H ?_ ?_<;>intro H
  .refine aa H λr15 q15 H=>sA (cwv [(200,200)] [(210,212)] 213 (Md.h q15)) ?_
   cases H
   refine bA ((fy (o:=211) (j:=3))) ?_
   refine bA (wS 212 210) ?_
   exact bj
  obtain⟨⟨v16,v20⟩,Hj,H⟩:=ob H
  refine jR ⟨[(0,tP 200),(3,tP 210),(4,tP 211),(93,tB v16)],[(200,.var 125 (kM [.f] (cj v20))),(210,.var 34 (kM [.f,.f,.f,.f,.f] (bw a1))),(211,.var 50 (kM [.z,.z] (dV ed)))],212⟩ ?_ ?_
  .refine gC Hj ?_ ?_<;>intro H
   .refine aa H λr21 q21 H=>sG (cw (o:=200) (iN q21)) ?_
    exact ai H
   exact ai H
  refine cC H ?_ ?_<;>intro H
  .refine aa H λr22 q22 H=>nA (ca (hF:=JO.h q22)) ?_
   refine aa H λr23 q23 H=>sA (cw (o:=200) (cm q23)) ?_
   refine aa H λr24 q24 H=>sA (cw (o:=200) (cm q24)) ?_
   refine cC H ?_ ?_<;>intro H
   .cases H
    refine bA ((fy (o:=211) (j:=3))) ?_
    refine bA ((dE (o:=211) (j:=23) 5 1 true)) ?_
    refine bA (wS 212 210) ?_
    refine bA ((wB 210 (([]:List Int).length))) ?_
    exact bj
   refine cC H ?_ ?_<;>intro H
   .cases H
    refine bA ((fy (o:=211) (j:=3))) ?_
    refine bA ((dE (o:=211) (j:=23) 5 1 true)) ?_
    refine bA (wS 212 210) ?_
    refine bA ((wB 210 (([]:List Int).length))) ?_
    exact bj
   cases H
   refine bA ((fy (o:=211) (j:=3))) ?_
   refine bA ((dE (o:=211) (j:=23) 5 1 true)) ?_
   refine bA (wS 212 210) ?_
   refine bA ((wB 210 (([]:List Int).length))) ?_
   exact bj
  cases H
  refine bA ((fy (o:=211) (j:=3))) ?_
  refine bA ((dE (o:=211) (j:=23) 5 1 true)) ?_
  refine bA (wS 212 210) ?_
  refine bA ((wB 210 (([]:List Int).length))) ?_
  exact bj
 obtain⟨⟨v25,v29⟩,Hj,H⟩:=ob H
 refine jR ⟨[(0,tP 200),(3,tP 210),(4,tP 211),(93,tB v25)],[(200,.var 125 (kM [.f] (cj v29))),(210,.var 34 (kM [.f,.f,.f,.f,.f] (bw a1))),(211,.var 50 (kM [.z,.z] (dV ed)))],212⟩ ?_ ?_
 .refine gC Hj ?_ ?_<;>intro H
  .refine aa H λr30 q30 H=>sG (cw (o:=200) (iN q30)) ?_
   exact ai H
  exact ai H
 refine cC H ?_ ?_<;>intro H
 .refine aa H λr31 q31 H=>nA (ca (hF:=JO.h q31)) ?_
  refine aa H λr32 q32 H=>sA (cw (o:=200) (cm q32)) ?_
  refine aa H λr33 q33 H=>sA (cw (o:=200) (cm q33)) ?_
  refine cC H ?_ ?_<;>intro H
  .cases H
   refine bA ((fy (o:=211) (j:=3))) ?_
   refine bA ((dE (o:=211) (j:=23) 5 1 true)) ?_
   refine bA (wS 212 210) ?_
   refine bA ((wB 210 (([]:List Int).length))) ?_
   exact bj
  refine cC H ?_ ?_<;>intro H
  .cases H
   refine bA ((fy (o:=211) (j:=3))) ?_
   refine bA ((dE (o:=211) (j:=23) 5 1 true)) ?_
   refine bA (wS 212 210) ?_
   refine bA ((wB 210 (([]:List Int).length))) ?_
   exact bj
  cases H
  refine bA ((fy (o:=211) (j:=3))) ?_
  refine bA ((dE (o:=211) (j:=23) 5 1 true)) ?_
  refine bA (wS 212 210) ?_
  refine bA ((wB 210 (([]:List Int).length))) ?_
  exact bj
 cases H
 refine bA ((fy (o:=211) (j:=3))) ?_
 refine bA ((dE (o:=211) (j:=23) 5 1 true)) ?_
 refine bA (wS 212 210) ?_
 refine bA ((wB 210 (([]:List Int).length))) ?_
 exact bj⟩
def uA:(Int×ab)->Option (cr (Int×ab) (ab))
 |(v1,v12)=>bif ltB v1 (v12.aw.length:Int) then(abJ (ix v12.aw v1) λx27=>abJ (uk x27) λr28=>abJ (jk v12 v1 r28) λr29=>some (.next (WR (v1+1),r29))) else(some (.done v12))
def nM (v30:Int) (r88:bO):(Int×ab)->Option (cr (Int×ab) (ab))
 |(v92,v103)=>bif ltB v92 (r88.co.length:Int) then(abJ (ix r88.co v92) λx117=>abJ (gS v103 (⟨v30,false,true,r88.aU.bh,d9,x117⟩:bM)) λr118=>some (.next (WR (v92+1),r118))) else(some (.done v103))
def uB:(Int×ab)->Option (cr (Int×ab) (ab))
 |(v30,v41)=>bif ltB v30 (v41.aA.length:Int) then(abJ (ix v41.aA v30) λx86=>abJ (ix v41.bG v30) λx87=>abJ (rW x86 x87 v41.ev) λr88=>abJ (ix v41.aA v30) λx89=>abJ (ix v41.bG v30) λx90=>abJ (lR {v41 with aA:=(v41.aA.set (v30).toNat r88.aU),bG:=(v41.bG.set (v30).toNat r88.eu)} v30 false r88.ju) λr91=>abJ (iter (nM v30 r88) FU (0,r91)) λ(v116:ab)=>some (.next (WR (v30+1),v116))) else(some (.done v41))
def BP (a0:ab):Option (Bool×ab):=
 bif leB 100000 a0.rr then(some (false,a0)) else(abJ (iter (uA) FU (0,{a0 with rr:=WR (a0.rr+1)})) λ(v26:ab)=>abJ (iter (uB) FU (0,v26)) λ(v85:ab)=>some (true,v85))
instance Oa {a0:ab} {r:Bool×ab}:FCV prog (BP a0=some r) 157 (nS a0) [tP 200] (nS r.2) (.v (.c (.d false (.b r.1)))) []:=⟨λH=>by
 refine fV func157 ntmps157 ?_
 refine cC H ?_ ?_<;>intro H
 .cases H
  exact bj
 refine aa H λv26 Hj H=>jB ⟨[(0,tP 200)],(nS v26),210⟩ ?_ ?_
 .refine iT Hj (λq=>⟨[(0,tP 200),(3,tI q.1)],(nS q.2),210⟩) ?_
  rintro⟨v1,v12⟩ o H
  refine ad ?_
  refine cC H ?_ ?_<;>intro H
  .refine aa H λx27 hx27 H=>bL (lU 190 (hne:=ya (enc:=cF) hx27)) ?_
   refine nA (xwT hx27) ?_
   refine nA (oea (he:=dF _ hx27)) ?_
   refine aa H λr28 q28 H=>nA (ca (hF:=G7.h q28)) ?_
   refine aa H λr29 q29 H=>bL (bv (o:=210)) ?_
   refine bL (bH (k:=38)) ?_
   refine bL (d8 190) ?_
   refine sA (cwu m0 [] 211 (o9.h q29)) ?_
   exact aN H
  exact aE H
 refine aa H λv85 Hj H=>jB ⟨[],(nS v85),210⟩ ?_ ?_
 .refine iT Hj (λq=>⟨[(0,tP 200),(4,tI q.1)],(nS q.2),210⟩) ?_
  rintro⟨v30,v41⟩ o H
  refine ad ?_
  refine cC H ?_ ?_<;>intro H
  .refine zI (List.range 21) ?_
   refine aa H λx86 hx86 H=>zA (qL hx86) ?_
   refine zA (Jw (he:=dF _ hx86)) ?_
   refine aa H λx87 hx87 H=>zA (qL hx87) ?_
   refine zA (Jw (he:=dF _ hx87)) ?_
   refine aa H λr88 q88 H=>zA (ca (hF:=FQ.h q88)) ?_
   refine wA (spx 100578) ?_
   refine zI (List.range 9) ?_
   refine aa H λx89 hx89 H=>zA (qL hx89) ?_
   refine zB (am (bv (o:=210)) (am (bv (o:=211)) (am (bv (o:=212)) (am (bH (k:=74)) (lU 191 (hne:=ya (enc:=bS) hx89)))))) (fg rfl (soT (enc:=bS) (a':=r88.aU) hx89)) bC ?_
   refine zI (List.range 9) ?_
   refine aa H λx90 hx90 H=>zA (qL hx90) ?_
   refine zB (am (bv (o:=213)) (am (bH (k:=82)) (lU 192 (hne:=ya (enc:=cM) hx90)))) (fg rfl (soT (enc:=cM) (a':=r88.eu) hx90)) bC ?_
   refine aa H λr91 q91 H=>bL (bv (o:=214)) ?_
   refine bL (bH (k:=87)) ?_
   refine bL (d8 191) ?_
   refine bL (d8 192) ?_
   refine bL (wB 191 ((v41.aA.set (v30).toNat r88.aU).length)) ?_
   refine bL (wB 192 ((v41.bG.set (v30).toNat r88.eu).length)) ?_
   refine sA (cwu m0 [] 217 (uZ.h q91)) ?_
   refine aa H λv116 Hj H=>jB ⟨[(0,tP 200),(4,tI v30)],(nS v116),217⟩ ?_ ?_
   .refine iT Hj (λq=>⟨[(0,tP 200),(4,tI v30),(5,tP 216),(6,tI q.1)],(nS q.2++[(210,w3 r88.aU.gT.bU true false),(211,Sd r88.aU.aH true false),(212,J9 r88.aU.ax.aC true false),(213,w166 r88.eu.an true false),(214,w42 r88.ju true false),(215,w46 r88.co),(216,.var 174 (kM [.w 210,.w 211,.w 212,.w 213,.w 214,.w 215] (bB r88)))]),217⟩) ?_
    rintro⟨v92,v103⟩ o H
    refine ad ?_
    refine cC H ?_ ?_<;>intro H
    .refine zI (List.range 12) ?_
     refine aa H λx117 hx117 H=>zA (xwT hx117) ?_
     refine zA (oea (he:=dF _ hx117)) ?_
     refine aa H λr118 q118 H=>zB bC (fg rfl (cwu m0 [] 217 (tq.h q118))) bC ?_
     exact aN H
    exact aE H
   exact aN H
  exact aE H
 cases H
 exact bj⟩
def oV (a0:aG) (a1:aF):Option aX:=
 abJ (lN a1) λr1=>abJ (bif !r1 then(some true) else(bif !eqB a1.bh a0.bh then(some true) else(some (eqB a0.bp 0)))) λ(v2:Bool)=>bif v2 then(abJ (tj a0) λr3=>some r3) else(abJ (kE a0) λr4=>abJ (bif eqB a1.a8 2 then(some (eqB a0.bp 1)) else(some false)) λ(v5:Bool)=>bif v5 then(abJ (zi a0 a1) λr6=>some r6) else(abJ (bif eqB a1.a8 4 then(bif eqB a0.bp 1 then(abJ (ij a0.aZ) λr8=>bif r8 then(bif eqB a1.ag a0.ag then(abJ (im a0.aZ a1) λr9=>some r9) else(some false)) else(some false)) else(some false)) else(some false)) λ(v7:Bool)=>bif v7 then(some (⟨{r4 with bp:=2,aV:=a1.aV,cq:=true},([]:List aF)⟩:aX)) else(abJ (bif eqB a1.a8 6 then(bif eqB a0.bp 2 then(bif eqB a1.ag a0.ag then(bif eqB a1.aV a0.aV then(abJ (im a0.aZ a1) λr11=>some r11) else(some false)) else(some false)) else(some false)) else(some false)) λ(v10:Bool)=>bif v10 then(some (⟨{r4 with cq:=true},([]:List aF)⟩:aX)) else(abJ (bif eqB a1.a8 7 then(bif eqB a0.bp 3 then(some (ltB a0.aV 999999)) else(some false)) else(some false)) λ(v12:Bool)=>bif v12 then(abJ (yB {r4 with bp:=2}) λr13=>some r13) else(abJ (bif eqB a1.a8 7 then(some (eqB a0.bp 2)) else(some false)) λ(v14:Bool)=>bif v14 then(abJ (vI a0) λr15=>abJ (mS {r4 with cq:=false} r15) λr16=>some r16) else(some (⟨r4,([]:List aF)⟩:aX)))))))
instance Cw {a0:aG} {a1:aF} {r:aX}:FC prog (oV a0 a1=some r) 335 [.agg (cF a0),.agg (cU a1)] [.agg (qM [.d,.d,.o] (dm r))]:=gF func335 ntmps335 (hb 9 20) (hb 29 25) (hb 41 37) (hb 73 69) (hb 103 99) (hb 120 116) (hz 17)
def ue (a0:aG) (a1:Int):Option aX:=
 abJ (bif eqB a1 a0.bh then(some true) else(abJ (du a1 0 5) λr2=>some (!r2))) λ(v1:Bool)=>bif v1 then(abJ (tj a0) λr3=>some r3) else(abJ (kE a0) λr4=>abJ (bif eqB a0.bp 2 then(some (ltB a0.aV 999999)) else(some false)) λ(v5:Bool)=>bif v5 then(abJ (yB {r4 with bh:=a1}) λr6=>some r6) else(some (⟨{r4 with bh:=a1},([]:List aF)⟩:aX)))
instance G4 {a0:aG} {a1:Int} {r:aX}:FC prog (ue a0 a1=some r) 262 [.agg (cF a0),aI a1] [.agg (qM [.d,.d,.o] (dm r))]:=gF func262 ntmps262 (hb 10 14) (hb 24 28)
end Go.AM
