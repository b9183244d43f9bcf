/- A part. -/
import Derived.Test.YtgbcdgihmgapeaaGreatS11
import Derived.Test.YtgbcdgihmgapeaaGreatS12
set_option linter.unusedVariables false
open Option renaming some->ς,none->ξ
open Bool renaming true->ζ,false->η
open True renaming intro->θ
open Option renaming bind->abG
namespace Go.AM
open Go.Proofs
open Tryz
attribute [local irreducible] AWN NS AWO AWR AWC DR DZ cB eZ iter
set_option maxRecDepth 100000
set_option maxHeartbeats 40000000
def zy21(a0:ab)(a1:cY):Int->Option (ct (Int) (Bool))
 |v4=>cond (ltB v4 (a0.aZ.length:Int)) (abG (ix a0.aZ v4) λx5=>abG (mR x5 a1.bN) λr6=>cond r6 (dn (ς ζ)) (ς (.next (WR (v4+1))))) (dn (abG (ix a0.aj a1.bN.bA) λx7=>abG (cond a1.bN.dL (ς (!a1.bN.eH)) (ς η)) λ(v8:Bool)=>cond v8 (abG (cond (ltB a1.bN.cz.ag x7.ag) (ς ζ) (cond (eqB a1.bN.cz.ag x7.ag) (abG (mL x7.aY a1.bN.cz) λr10=>ς (!r10)) (ς η))) λ(v9:Bool)=>ς v9) (cond a1.bN.dL (ς ζ) (cond a1.bN.eH (abG (ix a0.an a1.bN.bA) λx11=>abG (mS x11 a1.bN.bw) λr12=>ς r12) (abG (ky x7 a1.bN.bw) λr13=>ς r13)))))
def zy22(a0:ab)(a1:cY):Option Bool:=
 abG (cond (!eqB a1.bk 13) (ς ζ) (abG (jk a0) λr2=>cond (!r2) (ς ζ) (abG (iY a0 a1.bN) λr3=>ς (!r3)))) λ(v1:Bool)=>cond v1 (ς ζ) (iter (zy21 a0 a1) FU 0)
instance zy23{a0:ab}{a1:cY}{r:Bool}:FC prog (zy22 a0 a1=ς r) 126 [.agg (fK a0),.agg (nI a1)] [.c (.d (.b r))]:=gG func126 ntmps126 (hb 13 23) (hl 0 6) (hb 47 44) (hb 58 4)
def zy24(a0:aT)(a1:ab):Option (cY×aT):=
 abG (cj a0 (a1.aj.length:Int)) λr1=>abG (ix a1.aj r1.1) λx2=>abG (cj r1.2 (a1.dV.bp.length:Int)) λr3=>abG (gY r3.2 2) λr4=>abG (cj r4.2 3) λr5=>abG (cond (eqB r5.1 0) (abG (cj r5.2 9) λr30=>abG (qB x2.aY x2.ag x2.bi (⟨WR (1+r30.1),[9]⟩:ae)) λr31=>ς (r30.2,(⟨r1.1,η,ζ,r3.1,iJ,{r31 with bz:={r31.bz with jD:=Int.tmod (WR (r31.bz.jD+1)) 2147483647}}⟩:bT))) (abG (cond (eqB r5.1 1) (abG (A1 r5.2 x2) λr49=>ς (η,r49.2,r49.1)) (abG (ix a1.an r1.1) λx50=>abG (uf r5.2 x50) λr51=>ς (ζ,r51.2,r51.1))) λ((v35,v47,v48):Bool×aT×aM)=>ς (v47,(⟨r1.1,v35,η,r3.1,v48,fj⟩:bT)))) λ((v28,v29):aT×bT)=>abG (zy22 a1 {dM with bk:=13,bN:=v29}) λr52=>abG (cond (!r52) (ς 7) (ς v29.bw.bk)) λ(v53:Int)=>ς ({dM with bk:=13,bN:={v29 with bw:={v29.bw with bk:=v53}}},v28)
instance zy25{a0:aT}{a1:ab}{r:cY×aT}:FCV prog (zy24 a0 a1=ς r) 77 (oM [.t,.n 190,.n 191,.n 192,.n 193] 201 34 (aS a1)++[(200,.var 92 (kM [.f] (bZ a0)))]) [tP 200,.v (.agg [.d η (.l (a1.dV.bp.map fP)),.wn 190 a1.aj.length,.wn 191 a1.an.length,.wn 192 a1.aU.length,.wn 193 a1.aZ.length,.d η (.i .i64 a1.cX),.d η (.i .i64 a1.d8.fD),.d η (.i .i64 a1.d8.eG),.d η (.i .i64 a1.oG),.d η (.i .i64 a1.jM)])] (oM [.t,.n 190,.n 191,.n 192,.n 193] 201 34 (aS a1)++[(200,.var 92 (kM [.f] (bZ r.2)))]) (.v (.agg (kM [.z,.n 210] (lg {r.1 with bb:=[]})))) [(210,n5 r.1.bN.cz.bz.bb)]:=⟨λH=>by
 refine fV func77 ntmps77 ?_
 refine aa H λr1 q1 H=>sA (cw (o:=200) (dT.h q1)) ?_
 refine aa H λx2 hx2 H=>ea (vw 190 (hne:=HT (enc:=di) hx2)) ?_
 refine nA (xwT hx2) ?_
 refine nA (oea (he:=gk _ hx2)) ?_
 refine aa H λr3 q3 H=>sA (cw (o:=200) (dT.h q3)) ?_
 refine aa H λr4 q4 H=>sA (cw (o:=200) (pK.h q4)) ?_
 refine aa H λr5 q5 H=>sA (cw (o:=200) (dT.h q5)) ?_
 obtain⟨⟨v28,v29⟩,Hj,H⟩:=ob H
 refine jA ⟨[(3,tP 210),(4,tP 211),(7,tP 213)],(oM [.t,.w 190,.n 191,.n 192,.n 193] 201 34 (aS a1)++(oM [.n 215] 213 71 (yc v29)++[(200,.var 92 (kM [.f] (bZ v28))),(210,.var 34 (kM [.f,.w 190,.n 191,.n 192,.n 193] (aS a1))),(211,.var 73 (kM [.z,.z] (lg dM)))])),216⟩ ?_ ?_
 .refine cC Hj ?_ ?_<;>intro H
  .refine zI (List.range 14) ?_
   refine aa H λr30 q30 H=>wA (cwx (o:=200) (dT.h q30)) ?_
   refine aa H λr31 q31 H=>zA (ca (hF:=VP.h q31)) ?_
   refine wA (spx 100482) ?_
   refine nA (ir rfl rfl rfl (by decide)) ?_
   cases H
   refine aK (gA 215) ?_
   refine aK (wB 214 [9].length) ?_
   exact wo
  obtain⟨⟨v35,v47,v48⟩,Hj,H⟩:=ob H
  refine jA ⟨[(3,tP 210),(4,tP 211),(7,tP 213)],(oM [.t,.w 190,.n 191,.n 192,.n 193] 201 34 (aS a1)++[(200,.var 92 (kM [.f] (bZ v47))),(210,.var 34 (kM [.f,.w 190,.n 191,.n 192,.n 193] (aS a1))),(211,.var 73 (kM [.z,.z] (lg dM))),(213,.var 71 (kM [.z] (yc (⟨r1.1,v35,η,r3.1,v48,fj⟩:bT))))]),214⟩ ?_ ?_
  .refine cC Hj ?_ ?_<;>intro H
   .refine aa H λr49 q49 H=>sA (cw (o:=200) (sl29Ctl_c.h q49)) ?_
    exact ai H
   refine aa H λx50 hx50 H=>ea (vw 191 (hne:=HT (enc:=cO) hx50)) ?_
   refine nA (xwT hx50) ?_
   refine nA (oea (he:=gk _ hx50)) ?_
   refine aa H λr51 q51 H=>sA (cw (o:=200) (V4.h q51)) ?_
   cases H
   refine aK (gA 191) ?_
   exact wo
  cases H
  refine aK (dY (o:=213) (j:=19) 5 1 ζ) ?_
  refine aK (wB 214 (([]:List Int).length)) ?_
  refine aK (A6 (nx':=216) rfl) ?_
  refine aK (wS 215 214) ?_
  exact wo
 refine aa H λr52 q52 H=>nA (ca (hF:=zy23.h q52)) ?_
 refine aa H λv53 Hj H=>jA ⟨[(4,tP 211),(8,tP 216)],(oM [.t,.w 190,.n 191,.n 192,.n 193] 201 34 (aS a1)++(oM [.z,.n 215] 216 73 (lg {dM with bk:=13,bN:={v29 with bw:={v29.bw with bk:=v53}}})++[(200,.var 92 (kM [.f] (bZ v28))),(211,.var 73 (kM [.z,.z] (lg dM)))])),217⟩ ?_ ?_
 .exact az Hj
 cases H
 refine ci (wS 215 210) ?_
 refine ci ((gA 190)) ?_
 exact dK⟩
def zy26(a0:aT)(a1:ab):Option (cY×aT):=
 abG (Cw 1 (a1.aj.length:Int)) λr1=>abG (cj a0 r1) λr2=>abG (cj r2.2 34) λr3=>cond (eqB r3.1 0) (ς ({dM with bk:=5,cV:=r2.1},r3.2)) (abG (cond (eqB r3.1 1) (ς (eqB r3.1 1)) (ς (eqB r3.1 2))) λ(v4:Bool)=>cond v4 (abG (cj r3.2 (WR ((a1.dV.bp.length:Int)+1))) λr5=>ς ((⟨6,r2.1,r5.1,[],oF⟩:cY),r5.2)) (cond (eqB r3.1 3) (ς ({dM with bk:=7,cV:=r2.1},r3.2)) (abG (cond (eqB r3.1 4) (ς (eqB r3.1 4)) (ς (eqB r3.1 5))) λ(v6:Bool)=>cond v6 (abG (cj r3.2 4) λr7=>abG (vh r7.2 r7.1) λr8=>ς ((⟨8,r2.1,0,r8.1,oF⟩:cY),r8.2)) (cond (eqB r3.1 6) (abG (cj r3.2 (WR ((a1.dV.bp.length:Int)+1))) λr9=>ς ({dM with bk:=9,cV:=r9.1},r9.2)) (abG (cond (eqB r3.1 7) (ς (eqB r3.1 7)) (ς (eqB r3.1 8))) λ(v10:Bool)=>cond v10 (abG (cj r3.2 (WR ((a1.dV.bp.length:Int)+1))) λr11=>ς ({dM with bk:=10,cV:=r11.1},r11.2)) (cond (eqB r3.1 9) (abG (cj r3.2 2) λr12=>ς ({dM with bk:=11,cV:=r12.1},r12.2)) (cond (eqB r3.1 10) (abG (cj r3.2 2) λr13=>ς ({dM with bk:=12,cV:=r13.1},r13.2)) (abG (cond (eqB r3.1 11) (ς (eqB r3.1 11)) (ς (eqB r3.1 12))) λ(v14:Bool)=>cond v14 (cond (ltB 0 (a1.aj.length:Int)) (abG (zy24 r3.2 a1) λr15=>ς ({r15.1 with bb:=[]},r15.2)) (abG (cond (ltB 0 (a1.aZ.length:Int)) (abG (gY r3.2 4) λr21=>ς (!r21.1,r21.2)) (ς (η,r3.2))) λ((v16,v20):Bool×aT)=>cond v16 (abG (Cy (a1.aZ.length:Int) 3) λr22=>abG (cj v20 r22) λr23=>abG (cj r23.2 12) λr24=>cond (eqB r24.1 0) (ς ({dM with bk:=3,cV:=r23.1},r24.2)) (cond (eqB r24.1 1) (ς ({dM with bk:=4,cV:=r23.1},r24.2)) (ς ({dM with bk:=2,cV:=r23.1},r24.2)))) (ς ({dM with bk:=1},v20)))) (abG (cond (ltB 0 (a1.aZ.length:Int)) (abG (gY r3.2 4) λr30=>ς (!r30.1,r30.2)) (ς (η,r3.2))) λ((v25,v29):Bool×aT)=>cond v25 (abG (Cy (a1.aZ.length:Int) 3) λr31=>abG (cj v29 r31) λr32=>abG (cj r32.2 12) λr33=>cond (eqB r33.1 0) (ς ({dM with bk:=3,cV:=r32.1},r33.2)) (cond (eqB r33.1 1) (ς ({dM with bk:=4,cV:=r32.1},r33.2)) (ς ({dM with bk:=2,cV:=r32.1},r33.2)))) (ς ({dM with bk:=1},v29)))))))))))
instance zy27{a0:aT}{a1:ab}{r:cY×aT}:FCV prog (zy26 a0 a1=ς r) 43 (oM [.t,.n 190,.n 191,.n 192,.n 193] 201 34 (aS a1)++[(200,.var 92 (kM [.f] (bZ a0)))]) [tP 200,.v (.agg [.d η (.l (a1.dV.bp.map fP)),.wn 190 a1.aj.length,.wn 191 a1.an.length,.wn 192 a1.aU.length,.wn 193 a1.aZ.length,.d η (.i .i64 a1.cX),.d η (.i .i64 a1.d8.fD),.d η (.i .i64 a1.d8.eG),.d η (.i .i64 a1.oG),.d η (.i .i64 a1.jM)])] (oM [.t,.n 190,.n 191,.n 192,.n 193] 201 34 (aS a1)++[(200,.var 92 (kM [.f] (bZ r.2)))]) (.v (.agg (kM [.t,.n 210] (lg r.1)))) [(210,n5 r.1.bN.cz.bz.bb)]:=⟨λH=>by
 refine fV func43 ntmps43 ?_
 refine aa H λr1 q1 H=>nA (ca (hF:=Yw.h q1)) ?_
 refine aa H λr2 q2 H=>sA (cw (o:=200) (dT.h q2)) ?_
 refine aa H λr3 q3 H=>sA (cw (o:=200) (dT.h q3)) ?_
 refine cC H ?_ ?_<;>intro H
 .cases H
  refine ci ((eF (o:=211) (j:=3))) ?_
  refine ci ((dY (o:=211) (j:=23) 5 1 ζ)) ?_
  refine ci (wS 212 210) ?_
  refine ci ((wB 210 (([]:List Int).length))) ?_
  exact dK
 refine aa H λv4 Hj H=>jA ⟨[(0,tP 200),(3,tP 210),(4,tP 211),(5,tI r2.1),(14,tI r3.1),(19,tB v4)],(oM [.t,.n 190,.n 191,.n 192,.n 193] 201 34 (aS a1)++[(200,.var 92 (kM [.f] (bZ r3.2))),(210,.var 34 (kM [.f,.n 190,.n 191,.n 192,.n 193] (aS a1))),(211,.var 73 (kM [.z,.z] (lg dM)))]),212⟩ ?_ ?_
 .exact az Hj
 refine cC H ?_ ?_<;>intro H
 .refine aa H λr5 q5 H=>sA (cw (o:=200) (dT.h q5)) ?_
  cases H
  refine ci ((eF (o:=211) (j:=3))) ?_
  refine ci ((dY (o:=211) (j:=23) 5 1 ζ)) ?_
  refine ci (wS 212 210) ?_
  refine ci ((wB 210 (([]:List Int).length))) ?_
  exact dK
 refine cC H ?_ ?_<;>intro H
 .cases H
  refine ci ((eF (o:=211) (j:=3))) ?_
  refine ci ((dY (o:=211) (j:=23) 5 1 ζ)) ?_
  refine ci (wS 212 210) ?_
  refine ci ((wB 210 (([]:List Int).length))) ?_
  exact dK
 refine aa H λv6 Hj H=>jA ⟨[(0,tP 200),(3,tP 210),(4,tP 211),(5,tI r2.1),(14,tI r3.1),(35,tB v6)],(oM [.t,.n 190,.n 191,.n 192,.n 193] 201 34 (aS a1)++[(200,.var 92 (kM [.f] (bZ r3.2))),(210,.var 34 (kM [.f,.n 190,.n 191,.n 192,.n 193] (aS a1))),(211,.var 73 (kM [.z,.z] (lg dM)))]),212⟩ ?_ ?_
 .exact az Hj
 refine cC H ?_ ?_<;>intro H
 .refine aa H λr7 q7 H=>sA (cw (o:=200) (dT.h q7)) ?_
  refine aa H λr8 q8 H=>sA (cw (o:=200) (CL.h q8)) ?_
  cases H
  refine ci ((g7 (o:=212))) ?_
  refine ci ((fN (k:=42))) ?_
  refine ci ((fN (k:=43))) ?_
  refine ci ((nE (o:=211))) ?_
  refine ci ((dY (o:=211) (j:=23) 5 1 ζ)) ?_
  refine ci (wS 213 210) ?_
  refine ci ((wB 210 (([]:List Int).length))) ?_
  exact dK
 refine cC H ?_ ?_<;>intro H
 .refine aa H λr9 q9 H=>sA (cw (o:=200) (dT.h q9)) ?_
  cases H
  refine ci ((eF (o:=211) (j:=3))) ?_
  refine ci ((dY (o:=211) (j:=23) 5 1 ζ)) ?_
  refine ci (wS 212 210) ?_
  refine ci ((wB 210 (([]:List Int).length))) ?_
  exact dK
 refine aa H λv10 Hj H=>jA ⟨[(0,tP 200),(3,tP 210),(4,tP 211),(14,tI r3.1),(54,tB v10)],(oM [.t,.n 190,.n 191,.n 192,.n 193] 201 34 (aS a1)++[(200,.var 92 (kM [.f] (bZ r3.2))),(210,.var 34 (kM [.f,.n 190,.n 191,.n 192,.n 193] (aS a1))),(211,.var 73 (kM [.z,.z] (lg dM)))]),212⟩ ?_ ?_
 .exact az Hj
 refine cC H ?_ ?_<;>intro H
 .refine aa H λr11 q11 H=>sA (cw (o:=200) (dT.h q11)) ?_
  cases H
  refine ci ((eF (o:=211) (j:=3))) ?_
  refine ci ((dY (o:=211) (j:=23) 5 1 ζ)) ?_
  refine ci (wS 212 210) ?_
  refine ci ((wB 210 (([]:List Int).length))) ?_
  exact dK
 refine cC H ?_ ?_<;>intro H
 .refine aa H λr12 q12 H=>sA (cw (o:=200) (dT.h q12)) ?_
  cases H
  refine ci ((eF (o:=211) (j:=3))) ?_
  refine ci ((dY (o:=211) (j:=23) 5 1 ζ)) ?_
  refine ci (wS 212 210) ?_
  refine ci ((wB 210 (([]:List Int).length))) ?_
  exact dK
 refine cC H ?_ ?_<;>intro H
 .refine aa H λr13 q13 H=>sA (cw (o:=200) (dT.h q13)) ?_
  cases H
  refine ci ((eF (o:=211) (j:=3))) ?_
  refine ci ((dY (o:=211) (j:=23) 5 1 ζ)) ?_
  refine ci (wS 212 210) ?_
  refine ci ((wB 210 (([]:List Int).length))) ?_
  exact dK
 refine aa H λv14 Hj H=>jA ⟨[(0,tP 200),(3,tP 210),(4,tP 211),(75,tB v14)],(oM [.t,.n 190,.n 191,.n 192,.n 193] 201 34 (aS a1)++[(200,.var 92 (kM [.f] (bZ r3.2))),(210,.var 34 (kM [.f,.n 190,.n 191,.n 192,.n 193] (aS a1))),(211,.var 73 (kM [.z,.z] (lg dM)))]),212⟩ ?_ ?_
 .exact az Hj
 refine cC H ?_ ?_<;>intro H
 .refine cC H ?_ ?_<;>intro H
  .refine aa H λr15 q15 H=>sA (cwv [(190,190),(191,191),(192,192),(193,193),(201,201),(200,200)] [(210,212)] 213 (zy25.h q15)) ?_
   cases H
   refine ci ((eF (o:=211) (j:=3))) ?_
   refine ci (wS 212 210) ?_
   exact dK
  obtain⟨⟨v16,v20⟩,Hj,H⟩:=ob H
  refine jR ⟨[(0,tP 200),(3,tP 210),(4,tP 211),(93,tB v16)],(oM [.t,.n 190,.n 191,.n 192,.n 193] 201 34 (aS a1)++[(200,.var 92 (kM [.f] (bZ v20))),(210,.var 34 (kM [.f,.n 190,.n 191,.n 192,.n 193] (aS a1))),(211,.var 73 (kM [.z,.z] (lg dM)))]),212⟩ ?_ ?_
  .refine gC Hj ?_ ?_<;>intro H
   .refine aa H λr21 q21 H=>sG (cw (o:=200) (pK.h q21)) ?_
    exact ai H
   exact ai H
  refine cC H ?_ ?_<;>intro H
  .refine aa H λr22 q22 H=>nA (ca (hF:=Ge.h q22)) ?_
   refine aa H λr23 q23 H=>sA (cw (o:=200) (dT.h q23)) ?_
   refine aa H λr24 q24 H=>sA (cw (o:=200) (dT.h q24)) ?_
   refine cC H ?_ ?_<;>intro H
   .cases H
    refine ci ((eF (o:=211) (j:=3))) ?_
    refine ci ((dY (o:=211) (j:=23) 5 1 ζ)) ?_
    refine ci (wS 212 210) ?_
    refine ci ((wB 210 (([]:List Int).length))) ?_
    exact dK
   refine cC H ?_ ?_<;>intro H
   .cases H
    refine ci ((eF (o:=211) (j:=3))) ?_
    refine ci ((dY (o:=211) (j:=23) 5 1 ζ)) ?_
    refine ci (wS 212 210) ?_
    refine ci ((wB 210 (([]:List Int).length))) ?_
    exact dK
   cases H
   refine ci ((eF (o:=211) (j:=3))) ?_
   refine ci ((dY (o:=211) (j:=23) 5 1 ζ)) ?_
   refine ci (wS 212 210) ?_
   refine ci ((wB 210 (([]:List Int).length))) ?_
   exact dK
  cases H
  refine ci ((eF (o:=211) (j:=3))) ?_
  refine ci ((dY (o:=211) (j:=23) 5 1 ζ)) ?_
  refine ci (wS 212 210) ?_
  refine ci ((wB 210 (([]:List Int).length))) ?_
  exact dK
 obtain⟨⟨v25,v29⟩,Hj,H⟩:=ob H
 refine jR ⟨[(0,tP 200),(3,tP 210),(4,tP 211),(93,tB v25)],(oM [.t,.n 190,.n 191,.n 192,.n 193] 201 34 (aS a1)++[(200,.var 92 (kM [.f] (bZ v29))),(210,.var 34 (kM [.f,.n 190,.n 191,.n 192,.n 193] (aS a1))),(211,.var 73 (kM [.z,.z] (lg dM)))]),212⟩ ?_ ?_
 .refine gC Hj ?_ ?_<;>intro H
  .refine aa H λr30 q30 H=>sG (cw (o:=200) (pK.h q30)) ?_
   exact ai H
  exact ai H
 refine cC H ?_ ?_<;>intro H
 .refine aa H λr31 q31 H=>nA (ca (hF:=Ge.h q31)) ?_
  refine aa H λr32 q32 H=>sA (cw (o:=200) (dT.h q32)) ?_
  refine aa H λr33 q33 H=>sA (cw (o:=200) (dT.h q33)) ?_
  refine cC H ?_ ?_<;>intro H
  .cases H
   refine ci ((eF (o:=211) (j:=3))) ?_
   refine ci ((dY (o:=211) (j:=23) 5 1 ζ)) ?_
   refine ci (wS 212 210) ?_
   refine ci ((wB 210 (([]:List Int).length))) ?_
   exact dK
  refine cC H ?_ ?_<;>intro H
  .cases H
   refine ci ((eF (o:=211) (j:=3))) ?_
   refine ci ((dY (o:=211) (j:=23) 5 1 ζ)) ?_
   refine ci (wS 212 210) ?_
   refine ci ((wB 210 (([]:List Int).length))) ?_
   exact dK
  cases H
  refine ci ((eF (o:=211) (j:=3))) ?_
  refine ci ((dY (o:=211) (j:=23) 5 1 ζ)) ?_
  refine ci (wS 212 210) ?_
  refine ci ((wB 210 (([]:List Int).length))) ?_
  exact dK
 cases H
 refine ci ((eF (o:=211) (j:=3))) ?_
 refine ci ((dY (o:=211) (j:=23) 5 1 ζ)) ?_
 refine ci (wS 212 210) ?_
 refine ci ((wB 210 (([]:List Int).length))) ?_
 exact dK⟩
end Go.AM
