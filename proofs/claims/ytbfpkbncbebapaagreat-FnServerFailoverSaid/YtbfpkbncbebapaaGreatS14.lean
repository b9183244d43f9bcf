/- A part. -/
import Derived.Test.YtbfpkbncbebapaaGreatS13
set_option linter.unusedVariables false
open Option renaming bind->YL
open List renaming range->hV
namespace Go.AM
open Go.Proofs
open Tryz
attribute [local irreducible] AWN NS AWO AWR AWC DR dQ gQ
set_option maxRecDepth 100000
set_option maxHeartbeats 40000000
def AA (a0:aT) (a1:ab):Option (cR×aT):=
 YL (D9 1 (a1.an.length:Int)) λr1=>YL (co a0 r1) λr2=>YL (co r2.2 34) λr3=>bif eqB r3.1 0 then(some ({dN with aV:=5,cm:=r2.1},r3.2)) else(YL (bif eqB r3.1 1 then(some (eqB r3.1 1)) else(some (eqB r3.1 2))) λ(v4:Bool)=>bif v4 then(YL (co r3.2 (WR ((a1.d8.aR.length:Int)+1))) λr5=>some ((⟨6,r2.1,r5.1,[],gY⟩:cR),r5.2)) else(bif eqB r3.1 3 then(some ({dN with aV:=7,cm:=r2.1},r3.2)) else(YL (bif eqB r3.1 4 then(some (eqB r3.1 4)) else(some (eqB r3.1 5))) λ(v6:Bool)=>bif v6 then(YL (co r3.2 4) λr7=>YL (wL r7.2 r7.1) λr8=>some ((⟨8,r2.1,0,r8.1,gY⟩:cR),r8.2)) else(bif eqB r3.1 6 then(YL (co r3.2 (WR ((a1.d8.aR.length:Int)+1))) λr9=>some ({dN with aV:=9,cm:=r9.1},r9.2)) else(YL (bif eqB r3.1 7 then(some (eqB r3.1 7)) else(some (eqB r3.1 8))) λ(v10:Bool)=>bif v10 then(YL (co r3.2 (WR ((a1.d8.aR.length:Int)+1))) λr11=>some ({dN with aV:=10,cm:=r11.1},r11.2)) else(bif eqB r3.1 9 then(YL (co r3.2 2) λr12=>some ({dN with aV:=11,cm:=r12.1},r12.2)) else(bif eqB r3.1 10 then(YL (co r3.2 2) λr13=>some ({dN with aV:=12,cm:=r13.1},r13.2)) else(YL (bif eqB r3.1 11 then(some (eqB r3.1 11)) else(some (eqB r3.1 12))) λ(v14:Bool)=>bif v14 then(bif ltB 0 (a1.an.length:Int) then(YL (xz r3.2 a1) λr15=>some ({r15.1 with aS:=[]},r15.2)) else(YL (bif ltB 0 (a1.aN.length:Int) then(YL (im r3.2 4) λr21=>some (!r21.1,r21.2)) else(some (false,r3.2))) λ((v16,v20):Bool×aT)=>bif v16 then(YL (yK (a1.aN.length:Int) 3) λr22=>YL (co v20 r22) λr23=>YL (co r23.2 12) λr24=>bif eqB r24.1 0 then(some ({dN with aV:=3,cm:=r23.1},r24.2)) else(bif eqB r24.1 1 then(some ({dN with aV:=4,cm:=r23.1},r24.2)) else(some ({dN with aV:=2,cm:=r23.1},r24.2)))) else(some ({dN with aV:=1},v20)))) else(YL (bif ltB 0 (a1.aN.length:Int) then(YL (im r3.2 4) λr30=>some (!r30.1,r30.2)) else(some (false,r3.2))) λ((v25,v29):Bool×aT)=>bif v25 then(YL (yK (a1.aN.length:Int) 3) λr31=>YL (co v29 r31) λr32=>YL (co r32.2 12) λr33=>bif eqB r33.1 0 then(some ({dN with aV:=3,cm:=r32.1},r33.2)) else(bif eqB r33.1 1 then(some ({dN with aV:=4,cm:=r32.1},r33.2)) else(some ({dN with aV:=2,cm:=r32.1},r33.2)))) else(some ({dN with aV:=1},v29)))))))))))
theorem L0 {a0:aT} {a1:ab} {r:cR×aT} (H:AA a0 a1=some r):FnV prog 160 [(200,.var 148 (kM [.f] (bS a0)))] [tP 200,.v (.agg (kM [.f,.f,.f,.f,.f] (aJ a1)))] [(200,.var 148 (kM [.f] (bS r.2)))] (.v (.agg (kM [.t,.n 210] (eF r.1)))) [(210,n5 r.1.bG.cr.bp.aS)]:=by
 refine fV func160 ntmps160 ?_
 refine aa H λr1 q1 H=>nA (ca (hF:=Be q1)) ?_
 refine aa H λr2 q2 H=>sA (cw (o:=200) (bU q2)) ?_
 refine aa H λr3 q3 H=>sA (cw (o:=200) (bU q3)) ?_
 refine cC H ?_ ?_<;>intro H
 .cases H
  refine bV ((fA (o:=211) (j:=3))) ?_
  refine bV ((dE (o:=211) (j:=23) 5 1 true)) ?_
  refine bV (wS 212 210) ?_
  refine bV ((wB 210 (([]:List Int).length))) ?_
  exact bO
 refine aa H λv4 Hj H=>jA ⟨[(0,tP 200),(3,tP 210),(4,tP 211),(5,tI r2.1),(14,tI r3.1),(19,tB v4)],[(200,.var 148 (kM [.f] (bS r3.2))),(210,.var 34 (kM [.f,.f,.f,.f,.f] (aJ a1))),(211,.var 50 (kM [.z,.z] (eF dN)))],212⟩ ?_ ?_
 .refine cC Hj ?_ ?_<;>intro H
  .exact ai H
  exact ai H
 refine cC H ?_ ?_<;>intro H
 .refine aa H λr5 q5 H=>sA (cw (o:=200) (bU q5)) ?_
  cases H
  refine bV ((fA (o:=211) (j:=3))) ?_
  refine bV ((dE (o:=211) (j:=23) 5 1 true)) ?_
  refine bV (wS 212 210) ?_
  refine bV ((wB 210 (([]:List Int).length))) ?_
  exact bO
 refine cC H ?_ ?_<;>intro H
 .cases H
  refine bV ((fA (o:=211) (j:=3))) ?_
  refine bV ((dE (o:=211) (j:=23) 5 1 true)) ?_
  refine bV (wS 212 210) ?_
  refine bV ((wB 210 (([]:List Int).length))) ?_
  exact bO
 refine aa H λv6 Hj H=>jA ⟨[(0,tP 200),(3,tP 210),(4,tP 211),(5,tI r2.1),(14,tI r3.1),(35,tB v6)],[(200,.var 148 (kM [.f] (bS r3.2))),(210,.var 34 (kM [.f,.f,.f,.f,.f] (aJ a1))),(211,.var 50 (kM [.z,.z] (eF dN)))],212⟩ ?_ ?_
 .refine cC Hj ?_ ?_<;>intro H
  .exact ai H
  exact ai H
 refine cC H ?_ ?_<;>intro H
 .refine aa H λr7 q7 H=>sA (cw (o:=200) (bU q7)) ?_
  refine aa H λr8 q8 H=>sA (cw (o:=200) (Et q8)) ?_
  cases H
  refine bV ((aU (o:=212))) ?_
  refine bV ((cj (k:=42))) ?_
  refine bV ((cj (k:=43))) ?_
  refine bV ((dq (o:=211))) ?_
  refine bV ((dE (o:=211) (j:=23) 5 1 true)) ?_
  refine bV (wS 213 210) ?_
  refine bV ((wB 210 (([]:List Int).length))) ?_
  exact bO
 refine cC H ?_ ?_<;>intro H
 .refine aa H λr9 q9 H=>sA (cw (o:=200) (bU q9)) ?_
  cases H
  refine bV ((fA (o:=211) (j:=3))) ?_
  refine bV ((dE (o:=211) (j:=23) 5 1 true)) ?_
  refine bV (wS 212 210) ?_
  refine bV ((wB 210 (([]:List Int).length))) ?_
  exact bO
 refine aa H λv10 Hj H=>jA ⟨[(0,tP 200),(3,tP 210),(4,tP 211),(14,tI r3.1),(54,tB v10)],[(200,.var 148 (kM [.f] (bS r3.2))),(210,.var 34 (kM [.f,.f,.f,.f,.f] (aJ a1))),(211,.var 50 (kM [.z,.z] (eF dN)))],212⟩ ?_ ?_
 .refine cC Hj ?_ ?_<;>intro H
  .exact ai H
  exact ai H
 refine cC H ?_ ?_<;>intro H
 .refine aa H λr11 q11 H=>sA (cw (o:=200) (bU q11)) ?_
  cases H
  refine bV ((fA (o:=211) (j:=3))) ?_
  refine bV ((dE (o:=211) (j:=23) 5 1 true)) ?_
  refine bV (wS 212 210) ?_
  refine bV ((wB 210 (([]:List Int).length))) ?_
  exact bO
 refine cC H ?_ ?_<;>intro H
 .refine aa H λr12 q12 H=>sA (cw (o:=200) (bU q12)) ?_
  cases H
  refine bV ((fA (o:=211) (j:=3))) ?_
  refine bV ((dE (o:=211) (j:=23) 5 1 true)) ?_
  refine bV (wS 212 210) ?_
  refine bV ((wB 210 (([]:List Int).length))) ?_
  exact bO
 refine cC H ?_ ?_<;>intro H
 .refine aa H λr13 q13 H=>sA (cw (o:=200) (bU q13)) ?_
  cases H
  refine bV ((fA (o:=211) (j:=3))) ?_
  refine bV ((dE (o:=211) (j:=23) 5 1 true)) ?_
  refine bV (wS 212 210) ?_
  refine bV ((wB 210 (([]:List Int).length))) ?_
  exact bO
 refine aa H λv14 Hj H=>jA ⟨[(0,tP 200),(3,tP 210),(4,tP 211),(75,tB v14)],[(200,.var 148 (kM [.f] (bS r3.2))),(210,.var 34 (kM [.f,.f,.f,.f,.f] (aJ a1))),(211,.var 50 (kM [.z,.z] (eF dN)))],212⟩ ?_ ?_
 .refine cC Hj ?_ ?_<;>intro H
  .exact ai H
  exact ai H
 refine cC H ?_ ?_<;>intro H
 .refine cC H ?_ ?_<;>intro H
  .refine aa H λr15 q15 H=>sA (cwv [(200,200)] [(210,212)] 213 (Kn q15)) ?_
   cases H
   refine bV ((fA (o:=211) (j:=3))) ?_
   refine bV (wS 212 210) ?_
   exact bO
  obtain⟨⟨v16,v20⟩,Hj,H⟩:=ob H
  refine jR ⟨[(0,tP 200),(3,tP 210),(4,tP 211),(93,tB v16)],[(200,.var 148 (kM [.f] (bS v20))),(210,.var 34 (kM [.f,.f,.f,.f,.f] (aJ a1))),(211,.var 50 (kM [.z,.z] (eF dN)))],212⟩ ?_ ?_
  .refine gC Hj ?_ ?_<;>intro H
   .refine aa H λr21 q21 H=>sG (cw (o:=200) (ia q21)) ?_
    exact ai H
   exact ai H
  refine cC H ?_ ?_<;>intro H
  .refine aa H λr22 q22 H=>nA (ca (hF:=wu q22)) ?_
   refine aa H λr23 q23 H=>sA (cw (o:=200) (bU q23)) ?_
   refine aa H λr24 q24 H=>sA (cw (o:=200) (bU q24)) ?_
   refine cC H ?_ ?_<;>intro H
   .cases H
    refine bV ((fA (o:=211) (j:=3))) ?_
    refine bV ((dE (o:=211) (j:=23) 5 1 true)) ?_
    refine bV (wS 212 210) ?_
    refine bV ((wB 210 (([]:List Int).length))) ?_
    exact bO
   refine cC H ?_ ?_<;>intro H
   .cases H
    refine bV ((fA (o:=211) (j:=3))) ?_
    refine bV ((dE (o:=211) (j:=23) 5 1 true)) ?_
    refine bV (wS 212 210) ?_
    refine bV ((wB 210 (([]:List Int).length))) ?_
    exact bO
   cases H
   refine bV ((fA (o:=211) (j:=3))) ?_
   refine bV ((dE (o:=211) (j:=23) 5 1 true)) ?_
   refine bV (wS 212 210) ?_
   refine bV ((wB 210 (([]:List Int).length))) ?_
   exact bO
  cases H
  refine bV ((fA (o:=211) (j:=3))) ?_
  refine bV ((dE (o:=211) (j:=23) 5 1 true)) ?_
  refine bV (wS 212 210) ?_
  refine bV ((wB 210 (([]:List Int).length))) ?_
  exact bO
 obtain⟨⟨v25,v29⟩,Hj,H⟩:=ob H
 refine jR ⟨[(0,tP 200),(3,tP 210),(4,tP 211),(93,tB v25)],[(200,.var 148 (kM [.f] (bS v29))),(210,.var 34 (kM [.f,.f,.f,.f,.f] (aJ a1))),(211,.var 50 (kM [.z,.z] (eF dN)))],212⟩ ?_ ?_
 .refine gC Hj ?_ ?_<;>intro H
  .refine aa H λr30 q30 H=>sG (cw (o:=200) (ia q30)) ?_
   exact ai H
  exact ai H
 refine cC H ?_ ?_<;>intro H
 .refine aa H λr31 q31 H=>nA (ca (hF:=wu q31)) ?_
  refine aa H λr32 q32 H=>sA (cw (o:=200) (bU q32)) ?_
  refine aa H λr33 q33 H=>sA (cw (o:=200) (bU q33)) ?_
  refine cC H ?_ ?_<;>intro H
  .cases H
   refine bV ((fA (o:=211) (j:=3))) ?_
   refine bV ((dE (o:=211) (j:=23) 5 1 true)) ?_
   refine bV (wS 212 210) ?_
   refine bV ((wB 210 (([]:List Int).length))) ?_
   exact bO
  refine cC H ?_ ?_<;>intro H
  .cases H
   refine bV ((fA (o:=211) (j:=3))) ?_
   refine bV ((dE (o:=211) (j:=23) 5 1 true)) ?_
   refine bV (wS 212 210) ?_
   refine bV ((wB 210 (([]:List Int).length))) ?_
   exact bO
  cases H
  refine bV ((fA (o:=211) (j:=3))) ?_
  refine bV ((dE (o:=211) (j:=23) 5 1 true)) ?_
  refine bV (wS 212 210) ?_
  refine bV ((wB 210 (([]:List Int).length))) ?_
  exact bO
 cases H
 refine bV ((fA (o:=211) (j:=3))) ?_
 refine bV ((dE (o:=211) (j:=23) 5 1 true)) ?_
 refine bV (wS 212 210) ?_
 refine bV ((wB 210 (([]:List Int).length))) ?_
 exact bO
def sL:(Int×ab)->Option (cf (Int×ab) (ab))
 |(v1,v12)=>bif ltB v1 (v12.an.length:Int) then(YL (ix v12.an v1) λx27=>YL (sm x27) λr28=>YL (iA v12 v1 r28) λr29=>some (.next (WR (v1+1),r29))) else(some (.done v12))
def mb (v30:Int) (r88:bY):(Int×ab)->Option (cf (Int×ab) (ab))
 |(v92,v103)=>bif ltB v92 (r88.cr.length:Int) then(YL (ix r88.cr v92) λx117=>YL (fC v103 (⟨v30,false,true,r88.aP.bg,d6,x117⟩:bD)) λr118=>some (.next (WR (v92+1),r118))) else(some (.done v103))
def sM:(Int×ab)->Option (cf (Int×ab) (ab))
 |(v30,v41)=>bif ltB v30 (v41.aj.length:Int) then(YL (ix v41.aj v30) λx86=>YL (ix v41.bi v30) λx87=>YL (p4 x86 x87 v41.d8) λr88=>YL (ix v41.aj v30) λx89=>YL (ix v41.bi v30) λx90=>YL (kt {v41 with aj:=(v41.aj.set (v30).toNat r88.aP),bi:=(v41.bi.set (v30).toNat r88.eo)} v30 false r88.jZ) λr91=>YL (iter (mb v30 r88) FU (0,r91)) λ(v116:ab)=>some (.next (WR (v30+1),v116))) else(some (.done v41))
def AC (a0:ab):Option (Bool×ab):=
 bif leB 100000 a0.oZ then(some (false,a0)) else(YL (iter (sL) FU (0,{a0 with oZ:=WR (a0.oZ+1)})) λ(v26:ab)=>YL (iter (sM) FU (0,v26)) λ(v85:ab)=>some (true,v85))
theorem L1 {a0:ab} {r:Bool×ab} (H:AC a0=some r):FnV prog 236 (nS a0) [tP 200] (nS r.2) (.v (.c (.d false (.b r.1)))) []:=by
 refine fV func236 ntmps236 ?_
 refine cC H ?_ ?_<;>intro H
 .cases H
  exact bO
 refine aa H λv26 Hj H=>jB ⟨[(0,tP 200)],(nS v26),210⟩ ?_ ?_
 .refine iT Hj (λq=>⟨[(0,tP 200),(3,tI q.1)],(nS q.2),210⟩) ?_
  rintro⟨v1,v12⟩ o H
  try dsimp only
  refine wI ?_
  refine cC H ?_ ?_<;>intro H
  .refine aa H λx27 hx27 H=>bH (kw 190 (hne:=vT (enc:=cI) hx27)) ?_
   refine nA (xwT hx27) ?_
   refine nA (oea (he:=gm _ hx27)) ?_
   refine aa H λr28 q28 H=>nA (ca (hF:=Ft q28)) ?_
   refine aa H λr29 q29 H=>bH (aU (o:=210)) ?_
   refine bH (cj (k:=38)) ?_
   refine bH (dS 190) ?_
   refine sA (cwu m0 [] 211 (nD q29)) ?_
   cases H
   refine dy ?_
   exact wo
  cases H
  refine dF (λhq=>?_)
  cases hq
  refine wI ?_
  exact wo
 refine aa H λv85 Hj H=>jB ⟨[],(nS v85),210⟩ ?_ ?_
 .refine iT Hj (λq=>⟨[(0,tP 200),(4,tI q.1)],(nS q.2),210⟩) ?_
  rintro⟨v30,v41⟩ o H
  try dsimp only
  refine wI ?_
  refine cC H ?_ ?_<;>intro H
  .refine zI (hV 21) ?_
   refine aa H λx86 hx86 H=>zA (oY hx86) ?_
   refine zA (HG (he:=gm _ hx86)) ?_
   refine aa H λx87 hx87 H=>zA (oY hx87) ?_
   refine zA (HG (he:=gm _ hx87)) ?_
   refine aa H λr88 q88 H=>zA (ca (hF:=Ek q88)) ?_
   refine wA (spx 100408) ?_
   refine zI (hV 9) ?_
   refine aa H λx89 hx89 H=>zA (oY hx89) ?_
   refine zB (ay (aU (o:=210)) (ay (aU (o:=211)) (ay (aU (o:=212)) (ay (cj (k:=74)) (kw 191 (hne:=vT (enc:=bB) hx89)))))) (hP rfl (soT (enc:=bB) (a':=r88.aP) hx89)) bW ?_
   refine zI (hV 9) ?_
   refine aa H λx90 hx90 H=>zA (oY hx90) ?_
   refine zB (ay (aU (o:=213)) (ay (cj (k:=82)) (kw 192 (hne:=vT (enc:=cp) hx90)))) (hP rfl (soT (enc:=cp) (a':=r88.eo) hx90)) bW ?_
   refine aa H λr91 q91 H=>bH (aU (o:=214)) ?_
   refine bH (cj (k:=87)) ?_
   refine bH (dS 191) ?_
   refine bH (dS 192) ?_
   refine bH (wB 191 ((v41.aj.set (v30).toNat r88.aP).length)) ?_
   refine bH (wB 192 ((v41.bi.set (v30).toNat r88.eo).length)) ?_
   refine sA (cwu m0 [] 217 (ta q91)) ?_
   refine aa H λv116 Hj H=>jB ⟨[(0,tP 200),(4,tI v30)],(nS v116),210⟩ ?_ ?_
   .refine iT Hj (λq=>⟨[(0,tP 200),(4,tI v30),(5,tP 216),(6,tI q.1)],(nS q.2++[(210,w3 r88.aP.g7.bj true false),(211,SO r88.aP.aA true false),(212,SQ r88.aP.aw.az true false),(213,w132 r88.eo.aq true false),(214,w42 r88.jZ true false),(215,w46 r88.cr),(216,.var 188 (kM [.w 210,.w 211,.w 212,.w 213,.w 214,.w 215] (cB r88)))]),217⟩) ?_
    rintro⟨v92,v103⟩ o H
    try dsimp only
    refine wI ?_
    refine cC H ?_ ?_<;>intro H
    .refine zI (hV 12) ?_
     refine aa H λx117 hx117 H=>zA (xwT hx117) ?_
     refine zA (oea (he:=gm _ hx117)) ?_
     refine aa H λr118 q118 H=>zB bW (hP rfl (cwu m0 [] 217 (qX q118))) bW ?_
     cases H
     refine dy ?_
     exact wo
    cases H
    refine dF (λhq=>?_)
    cases hq
    refine wI ?_
    exact wo
   cases H
   refine dy ?_
   exact wo
  cases H
  refine dF (λhq=>?_)
  cases hq
  refine wI ?_
  exact wo
 cases H
 exact bO
def sK (a0:ab) (a1:Int):Option ab:=
 YL (wV a0 a1) λr1=>YL (tK r1.2 r1.1.bg) λr2=>YL (bif !r2 then(some {r1.2 with kT:=WR (r1.2.kT+1)}) else(YL (bif r1.1.em then(bif !r1.1.dt then(some (eqB r1.1.aY.bg r1.1.bg)) else(some false)) else(some false)) λ(v14:Bool)=>YL (bif v14 then(YL (ix r1.2.aj r1.1.bv) λx26=>YL (nk x26 r1.1.aY) λr27=>YL (ix r1.2.aj r1.1.bv) λx28=>YL (kt {r1.2 with aj:=(r1.2.aj.set (r1.1.bv).toNat r27.aP)} r1.1.bv false r27.dX) λr29=>some r29) else(YL (bif r1.1.em then(some r1.2) else(YL (ix r1.2.an r1.1.bv) λx41=>YL (bif !eqB x41.bg r1.1.bg then(some {r1.2 with kT:=WR (r1.2.kT+1)}) else(YL (bif r1.1.dt then(YL (ix r1.2.an r1.1.bv) λx64=>YL (oA x64 r1.1.cr) λr65=>YL (iA r1.2 r1.1.bv r65) λr66=>some r66) else(YL (ix r1.2.an r1.1.bv) λx67=>YL (nj x67 r1.1.aY) λr68=>YL (iA r1.2 r1.1.bv r68) λr69=>some r69)) λ(v63:ab)=>some v63)) λ(v52:ab)=>some v52)) λ(v40:ab)=>some v40)) λ(v25:ab)=>some v25)) λ(v13:ab)=>some v13
theorem Fy {a0:ab} {a1:Int} {r:ab} (H:sK a0 a1=some r):FnV prog 301 (nS a0) [tP 200,tI a1] (nS r) (.tup []) []:=by
 refine fV func301 ntmps301 ?_
 refine aa H λr1 q1 H=>sA (cwu m0 [] 210 (EG q1)) ?_
 refine dI ?_
 refine aa H λr2 q2 H=>dA (ca (hF:=BK q2)) ?_
 refine wI ?_
 refine aa H λv13 Hj H=>jA ⟨[],(nS v13),210⟩ ?_ ?_
 .refine cC Hj ?_ ?_<;>intro H
  .exact ai H
  refine aa H λv14 Hj H=>jR ⟨[(0,tP 200),(4,tP 210),(5,tI r1.1.bv),(41,tB v14)],(nS r1.2++[(210,.var 48 (kM [.t] (lf r1.1)))]),211⟩ ?_ ?_
  .refine gC Hj ?_ ?_<;>intro H
   .refine gC H ?_ ?_<;>intro H
    .exact ai H
    exact ai H
   exact ai H
  refine aa H λv25 Hj H=>jA ⟨[],(nS v25),210⟩ ?_ ?_
  .refine cC Hj ?_ ?_<;>intro H
   .refine zI (hV 12) ?_
    refine aa H λx26 hx26 H=>zA (oY hx26) ?_
    refine zA (HG (he:=gm _ hx26)) ?_
    refine aa H λr27 q27 H=>zA (ca (hF:=Bi q27)) ?_
    refine wA (spx 100472) ?_
    refine zI (hV 9) ?_
    refine aa H λx28 hx28 H=>zA (oY hx28) ?_
    refine zB (kw 191 (hne:=vT (enc:=bB) hx28)) (hP rfl (soT (enc:=bB) (a':=r27.aP) hx28)) bW ?_
    refine aa H λr29 q29 H=>bH (aU (o:=211)) ?_
    refine bH (cj (k:=78)) ?_
    refine bH (dS 191) ?_
    refine bH (wB 191 ((r1.2.aj.set (r1.1.bv).toNat r27.aP).length)) ?_
    refine sA (cwu m0 [] 213 (ta q29)) ?_
    exact ai H
   refine aa H λv40 Hj H=>jA ⟨[],(nS v40),210⟩ ?_ ?_
   .refine cC Hj ?_ ?_<;>intro H
    .exact ai H
    refine dI ?_
    refine aa H λx41 hx41 H=>dA (oY hx41) ?_
    refine dA (oen (he:=gm _ hx41)) ?_
    refine wI ?_
    refine aa H λv52 Hj H=>jA ⟨[],(nS v52),210⟩ ?_ ?_
    .refine cC Hj ?_ ?_<;>intro H
     .exact ai H
     refine aa H λv63 Hj H=>jA ⟨[],(nS v63),210⟩ ?_ ?_
     .refine cC Hj ?_ ?_<;>intro H
      .refine zI (hV 13) ?_
       refine aa H λx64 hx64 H=>zA (oY hx64) ?_
       refine zA (HG (he:=gm _ hx64)) ?_
       refine aa H λr65 q65 H=>zA (ca (hF:=Ck q65)) ?_
       refine aa H λr66 q66 H=>zB (ay (aU (o:=211)) (ay (aU (o:=212)) (cj (k:=117)))) (hP rfl (cwu m0 [] 213 (nD q66))) bW ?_
       exact ai H
      refine zI (hV 13) ?_
      refine aa H λx67 hx67 H=>zA (oY hx67) ?_
      refine zA (HG (he:=gm _ hx67)) ?_
      refine aa H λr68 q68 H=>zA (ca (hF:=Bh q68)) ?_
      refine aa H λr69 q69 H=>zB (ay (aU (o:=211)) (cj (k:=23))) (hP rfl (cwu m0 [] 212 (nD q69))) bW ?_
      exact ai H
     exact ai H
    exact ai H
   exact ai H
  exact ai H
 cases H
 exact vI
def CF (a0:ab) (a1:cR):Option (Bool×ab):=
 YL (cO a1.cm 0 (WR ((a0.an.length:Int)-1))) λr1=>bif !r1 then(some (false,a0)) else(YL (ix a0.an a1.cm) λx2=>bif eqB a1.aV 5 then(bif !eqB x2.bu 0 then(some (false,a0)) else(YL (wv x2) λr3=>YL (iA a0 a1.cm r3) λr4=>some (true,r4))) else(bif eqB a1.aV 6 then(YL (bif eqB a1.bg x2.bg then(some true) else(YL (cO a1.bg 0 (WR ((a0.d8.aR.length:Int)-1))) λr6=>some (!r6))) λ(v5:Bool)=>bif v5 then(some (false,a0)) else(YL (rX x2 a1.bg) λr7=>YL (iA a0 a1.cm r7) λr8=>some (true,r8))) else(bif eqB a1.aV 7 then(bif !eqB x2.bu 2 then(some (false,a0)) else(YL (uB x2) λr9=>YL (ix a0.an a1.cm) λx10=>some (true,{a0 with an:=(a0.an.set (a1.cm).toNat r9)}))) else(YL (ix a0.aj a1.cm) λx11=>YL (lv x11 a1.aS) λr12=>YL (ix a0.aj a1.cm) λx13=>some (r12.2,{a0 with aj:=(a0.aj.set (a1.cm).toNat r12.1)})))))
theorem Pf {a0:ab} {a1:cR} {r:Bool×ab} (H:CF a0 a1=some r):FnV prog 238 (nS a0) [tP 200,.v (.agg (kM [.t,.t] (eF a1)))] (nS r.2) (.v (.c (.d false (.b r.1)))) []:=by
 refine fV func238 ntmps238 ?_
 refine aa H λr1 q1 H=>nA (ca (hF:=bT q1)) ?_
 refine cC H ?_ ?_<;>intro H
 .cases H
  exact bO
 refine aa H λx2 hx2 H=>bH (kw 190 (hne:=vT (enc:=cI) hx2)) ?_
 refine nA (xwT hx2) ?_
 refine nA (oea (he:=gm _ hx2)) ?_
 refine cC H ?_ ?_<;>intro H
 .refine cC H ?_ ?_<;>intro H
  .cases H
   refine bV ((dS 190)) ?_
   exact bO
  refine aa H λr3 q3 H=>nA (ca (hF:=Eb q3)) ?_
  refine aa H λr4 q4 H=>bH (aU (o:=212)) ?_
  refine bH (cj (k:=58)) ?_
  refine bH (dS 190) ?_
  refine sA (cwu m0 [] 213 (nD q4)) ?_
  cases H
  exact bO
 refine cC H ?_ ?_<;>intro H
 .refine dI ?_
  refine aa H λv5 Hj H=>et ⟨[(0,tP 200),(3,tP 210),(5,tI a1.cm),(6,tP 211),(79,tB v5)],(oM [.t,.w 190,.n 191,.n 192,.n 193] 200 34 (aJ a0)++[(210,.var 50 (kM [.t,.t] (eF a1))),(211,.var 86 (kM [.t,.t] (db x2)))]),212⟩ ?_ ?_
  .have H:=Hj
   refine wI ?_
   refine dC H ?_ ?_<;>intro H
   .refine wI ?_
    exact ai H
   refine aa H λr6 q6 H=>dG (ca (hF:=bT q6)) ?_
   refine wI ?_
   exact ai H
  refine wI ?_
  refine cC H ?_ ?_<;>intro H
  .refine wI ?_
   cases H
   refine bV ((dS 190)) ?_
   exact bO
  refine aa H λr7 q7 H=>nA (ca (hF:=Fq q7)) ?_
  refine aa H λr8 q8 H=>bH (aU (o:=212)) ?_
  refine bH (cj (k:=85)) ?_
  refine bH (dS 190) ?_
  refine sA (cwu m0 [] 213 (nD q8)) ?_
  refine wI ?_
  cases H
  exact bO
 refine cC H ?_ ?_<;>intro H
 .refine cC H ?_ ?_<;>intro H
  .cases H
   refine bV ((dS 190)) ?_
   exact bO
  refine zI (hV 9) ?_
  refine aa H λr9 q9 H=>zA (ca (hF:=HU q9)) ?_
  refine aa H λx10 hx10 H=>zA (xwT hx10) ?_
  refine zB (ay (aU (o:=212)) (ay (aU (o:=213)) (cj (k:=98)))) (hP rfl (soT (enc:=cI) (a':=r9) hx10)) bW ?_
  cases H
  refine bV ((dS 190)) ?_
  refine bV ((wB 190 ((a0.an.set (a1.cm).toNat r9).length))) ?_
  exact bO
 refine zI (hV 16) ?_
 refine aa H λx11 hx11 H=>zA (oY hx11) ?_
 refine zA (HG (he:=gm _ hx11)) ?_
 refine aa H λr12 q12 H=>zA (ca (hF:=vb q12)) ?_
 refine wA (spx 100474) ?_
 refine zI (hV 8) ?_
 refine aa H λx13 hx13 H=>zA (oY hx13) ?_
 refine zB (ay (aU (o:=212)) (ay (aU (o:=213)) (ay (aU (o:=214)) (ay (cj (k:=47)) (kw 191 (hne:=vT (enc:=bB) hx13)))))) (hP rfl (soT (enc:=bB) (a':=r12.1) hx13)) bW ?_
 cases H
 refine bV ((dS 190)) ?_
 refine bV ((dS 191)) ?_
 refine bV ((wB 191 ((a0.aj.set (a1.cm).toNat r12.1).length))) ?_
 exact bO
end Go.AM
