/- A part. -/
import Derived.Test.YtigcecmbknoijaaGreatDoorS19
set_option linter.unusedVariables false
open Option renaming some->ς,none->ξ
open Bool renaming true->ζ,false->η
open True renaming intro->θ
open Option renaming bind->ZU
namespace Go.AM
open Go.Proofs
open Tryz
attribute [local irreducible] AWN NS AWO AWR AWC DR DZ cM eN iter
set_option maxRecDepth 100000
set_option maxHeartbeats 40000000
def zy35:(Int×aj×ax)->Option (cH (Int×aj×ax) (aj×ax))
 |(v15,v33,v34)=>cond (ltB 0 v15) (ZU (a9 v33 5) λr120=>ZU (cond (eqB r120.1 0) (ZU (a9 r120.2 4) λr140=>ZU (oJ v34 r140.1) λr141=>ς (r140.2,r141.bk)) (ZU (cond (eqB r120.1 1) (ZU (oN v34) λr161=>ς (r120.2,r161.bk)) (ZU (cond (eqB r120.1 2) (ZU (qj v34) λr181=>ς (r120.2,r181)) (ZU (a9 r120.2 3) λr182=>ZU (sX (WR (v34.bL.bF+r182.1))) λr183=>ZU (lY v34.bj v34.ag v34.aZ (⟨WR (v34.bL.bF+r182.1),r183⟩:ab)) λr184=>ZU (zy22 v34 r184) λr185=>ς (r182.2,r185.bk))) λ((v179,v180):aj×ax)=>ς (v179,v180))) λ((v159,v160):aj×ax)=>ς (v159,v160))) λ((v138,v139):aj×ax)=>ς (.next (WR (v15-1),v138,v139))) (ς (.done (v33,v34)))
def y8(a0:aj):Option (ax×aj):=
 ZU (zf a0) λr1=>ZU (a9 r1.2 4) λr2=>ZU (tR r1.1 r2.1) λr3=>ZU (fD r2.2 5) λr4=>cond r4.1 (ς ({r3 with bL:={ct with bF:=r3.bL.bF}},r4.2)) (ZU (sN {r3 with bL:={ct with bF:=r3.bL.bF}}) λr5=>ZU (fD r4.2 4) λr6=>cond r6.1 (ς (r5.bk,r6.2)) (ZU (a9 r6.2 3) λr7=>ZU (i8 r5.bk.dZ.ID (WR ((WR (r5.bk.dZ.dq+1))+r7.1))) λr8=>ZU (ge r5.bk.dZ.gS r8 (WR ((WR (r5.bk.dZ.dq+1))+r7.1))) λr9=>ZU (je r5.bk (⟨2,r5.bk.bg,WR ((WR (r5.bk.dZ.dq+1))+r7.1),0,0,r9,0⟩:aT)) λr10=>ZU (a9 r7.2 3) λr11=>ZU (iB r10.bk.bj (⟨4,r10.bk.bg,WR ((WR (r5.bk.dZ.dq+1))+r7.1),WR (1+r11.1),0,c8,0⟩:aT)) λr12=>ZU (je r10.bk r12) λr13=>ZU (a9 r11.2 6) λr14=>ZU (iter (zy35) FU (r14.1,r14.2,r13.bk)) λ((v118,v119):aj×ax)=>ς (v119,v118)))
instance zy36{a0:aj}{r:ax×aj}:FCW prog (y8 a0=ς r) 55 (.var 115 (kM [.f] (aO a0))) [tP 200] (.var 115 (kM [.f] (aO r.2))) [.agg (qM [.d,.d] (fy r.1))]:=gW func55 ntmps55 (hL 0 (λ(v:Int×aj×ax) sl ob nx=>⟨(5,tI v.1)::sl,[(200,.var 115 (kM [.f] (aO v.2.1))),(211,.var 60 (kM [.t,.t] (fy v.2.2)))]++ob,nx⟩)) (hB 0 (λ(v:aj×ax) sl ob nx=>⟨(5,.any)::sl,[(200,.var 115 (kM [.f] (aO v.1))),(211,.var 60 (kM [.t,.t] (fy v.2)))]++ob,nx⟩)) (hC 86 (λ(v:aj×ax) sl ob nx=>⟨sl,[(200,.var 115 (kM [.f] (aO v.1))),(211,.var 60 (kM [.t,.t] (fy v.2)))]++ob,nx⟩)) (hz 17) (hC 93 (λ(v:aj×ax) sl ob nx=>⟨sl,[(200,.var 115 (kM [.f] (aO v.1))),(211,.var 60 (kM [.t,.t] (fy v.2)))]++ob,nx⟩)) (hC 98 (λ(v:aj×ax) sl ob nx=>⟨xS [216] sl,oM [.t,.w 216] 211 60 (fy v.2)++[(200,.var 115 (kM [.f] (aO v.1)))]++ob,217⟩)) (hz 15) (hz 14) (hz 9) (hz 8) (hz 7)
def zh(a0:aj)(a1:ae):Option (dF×aj):=
 ZU (Cr 1 (a1.av.length:Int)) λr1=>ZU (a9 a0 r1) λr2=>ZU (a9 r2.2 34) λr3=>cond (eqB r3.1 0) (ς ({dM with bp:=5,cZ:=r2.1},r3.2)) (ZU (cond (eqB r3.1 1) (ς (eqB r3.1 1)) (ς (eqB r3.1 2))) λ(v4:Bool)=>cond v4 (ZU (a9 r3.2 (WR ((a1.d5.bI.length:Int)+1))) λr5=>ς ((⟨6,r2.1,r5.1,[],fN⟩:dF),r5.2)) (cond (eqB r3.1 3) (ς ({dM with bp:=7,cZ:=r2.1},r3.2)) (ZU (cond (eqB r3.1 4) (ς (eqB r3.1 4)) (ς (eqB r3.1 5))) λ(v6:Bool)=>cond v6 (ZU (a9 r3.2 4) λr7=>ZU (nj r7.2 r7.1) λr8=>ς ((⟨8,r2.1,0,r8.1,fN⟩:dF),r8.2)) (cond (eqB r3.1 6) (ZU (a9 r3.2 (WR ((a1.d5.bI.length:Int)+1))) λr9=>ς ({dM with bp:=9,cZ:=r9.1},r9.2)) (ZU (cond (eqB r3.1 7) (ς (eqB r3.1 7)) (ς (eqB r3.1 8))) λ(v10:Bool)=>cond v10 (ZU (a9 r3.2 (WR ((a1.d5.bI.length:Int)+1))) λr11=>ς ({dM with bp:=10,cZ:=r11.1},r11.2)) (cond (eqB r3.1 9) (ZU (a9 r3.2 2) λr12=>ς ({dM with bp:=11,cZ:=r12.1},r12.2)) (cond (eqB r3.1 10) (ZU (a9 r3.2 2) λr13=>ς ({dM with bp:=12,cZ:=r13.1},r13.2)) (ZU (cond (eqB r3.1 11) (ς (eqB r3.1 11)) (ς (eqB r3.1 12))) λ(v14:Bool)=>cond v14 (cond (ltB 0 (a1.av.length:Int)) (ZU (zy26 r3.2 a1) λr15=>ς ({r15.1 with bm:=[]},r15.2)) (ZU (cond (ltB 0 (a1.aV.length:Int)) (ZU (fD r3.2 4) λr21=>ς (!r21.1,r21.2)) (ς (η,r3.2))) λ((v16,v20):Bool×aj)=>cond v16 (ZU (Cs (a1.aV.length:Int) 3) λr22=>ZU (a9 v20 r22) λr23=>ZU (a9 r23.2 12) λr24=>cond (eqB r24.1 0) (ς ({dM with bp:=3,cZ:=r23.1},r24.2)) (cond (eqB r24.1 1) (ς ({dM with bp:=4,cZ:=r23.1},r24.2)) (ς ({dM with bp:=2,cZ:=r23.1},r24.2)))) (ς ({dM with bp:=1},v20)))) (ZU (cond (ltB 0 (a1.aV.length:Int)) (ZU (fD r3.2 4) λr30=>ς (!r30.1,r30.2)) (ς (η,r3.2))) λ((v25,v29):Bool×aj)=>cond v25 (ZU (Cs (a1.aV.length:Int) 3) λr31=>ZU (a9 v29 r31) λr32=>ZU (a9 r32.2 12) λr33=>cond (eqB r33.1 0) (ς ({dM with bp:=3,cZ:=r32.1},r33.2)) (cond (eqB r33.1 1) (ς ({dM with bp:=4,cZ:=r32.1},r33.2)) (ς ({dM with bp:=2,cZ:=r32.1},r33.2)))) (ς ({dM with bp:=1},v29)))))))))))
instance KA{a0:aj}{a1:ae}{r:dF×aj}:FCV prog (zh a0 a1=ς r) 102 (oM [.t,.n 190,.n 191,.n 192,.n 193] 201 43 (bw a1)++[(200,.var 115 (kM [.f] (aO a0)))]) [tP 200,.v (.agg [.d η (.l (a1.d5.bI.map fw)),.wn 190 a1.av.length,.wn 191 a1.aD.length,.wn 192 a1.bD.length,.wn 193 a1.aV.length,.d η (.i .i64 a1.cP),.d η (.i .i64 a1.gT.ia),.d η (.i .i64 a1.gT.fZ),.d η (.i .i64 a1.lI),.d η (.i .i64 a1.Lost)])] (oM [.t,.n 190,.n 191,.n 192,.n 193] 201 43 (bw a1)++[(200,.var 115 (kM [.f] (aO r.2)))]) (.v (.agg (kM [.t,.n 210] (jp r.1)))) [(210,n5 r.1.bS.cA.bH.bm)]:=⟨λH=>by
 refine fV func102 ntmps102 ?_
 refine aa H λr1 q1 H=>nA (ca (hF:=Xb.h q1)) ?_
 refine aa H λr2 q2 H=>sA (cw (o:=200) (bW.h q2)) ?_
 refine aa H λr3 q3 H=>sA (cw (o:=200) (bW.h q3)) ?_
 refine cC H ?_ ?_<;>intro H
 .cases H
  refine cg ((eL (o:=211) (j:=3))) ?_
  refine cg ((eo (o:=211) (j:=23) 5 1 ζ)) ?_
  refine cg (wS 212 210) ?_
  refine cg ((wB 210 (([]:List Int).length))) ?_
  exact dv
 refine aa H λv4 Hj H=>jA ⟨[(0,tP 200),(3,tP 210),(4,tP 211),(5,tI r2.1),(14,tI r3.1),(19,tB v4)],(oM [.t,.n 190,.n 191,.n 192,.n 193] 201 43 (bw a1)++[(200,.var 115 (kM [.f] (aO r3.2))),(210,.var 43 (kM [.f,.n 190,.n 191,.n 192,.n 193] (bw a1))),(211,.var 182 (kM [.z,.z] (jp dM)))]),212⟩ ?_ ?_
 .exact az Hj
 refine cC H ?_ ?_<;>intro H
 .refine aa H λr5 q5 H=>sA (cw (o:=200) (bW.h q5)) ?_
  cases H
  refine cg ((eL (o:=211) (j:=3))) ?_
  refine cg ((eo (o:=211) (j:=23) 5 1 ζ)) ?_
  refine cg (wS 212 210) ?_
  refine cg ((wB 210 (([]:List Int).length))) ?_
  exact dv
 refine cC H ?_ ?_<;>intro H
 .cases H
  refine cg ((eL (o:=211) (j:=3))) ?_
  refine cg ((eo (o:=211) (j:=23) 5 1 ζ)) ?_
  refine cg (wS 212 210) ?_
  refine cg ((wB 210 (([]:List Int).length))) ?_
  exact dv
 refine aa H λv6 Hj H=>jA ⟨[(0,tP 200),(3,tP 210),(4,tP 211),(5,tI r2.1),(14,tI r3.1),(35,tB v6)],(oM [.t,.n 190,.n 191,.n 192,.n 193] 201 43 (bw a1)++[(200,.var 115 (kM [.f] (aO r3.2))),(210,.var 43 (kM [.f,.n 190,.n 191,.n 192,.n 193] (bw a1))),(211,.var 182 (kM [.z,.z] (jp dM)))]),212⟩ ?_ ?_
 .exact az Hj
 refine cC H ?_ ?_<;>intro H
 .refine aa H λr7 q7 H=>sA (cw (o:=200) (bW.h q7)) ?_
  refine aa H λr8 q8 H=>sA (cw (o:=200) (tZ.h q8)) ?_
  cases H
  refine cg ((eG (o:=212))) ?_
  refine cg ((fc (k:=42))) ?_
  refine cg ((fc (k:=43))) ?_
  refine cg ((fP (o:=211))) ?_
  refine cg ((eo (o:=211) (j:=23) 5 1 ζ)) ?_
  refine cg (wS 213 210) ?_
  refine cg ((wB 210 (([]:List Int).length))) ?_
  exact dv
 refine cC H ?_ ?_<;>intro H
 .refine aa H λr9 q9 H=>sA (cw (o:=200) (bW.h q9)) ?_
  cases H
  refine cg ((eL (o:=211) (j:=3))) ?_
  refine cg ((eo (o:=211) (j:=23) 5 1 ζ)) ?_
  refine cg (wS 212 210) ?_
  refine cg ((wB 210 (([]:List Int).length))) ?_
  exact dv
 refine aa H λv10 Hj H=>jA ⟨[(0,tP 200),(3,tP 210),(4,tP 211),(14,tI r3.1),(54,tB v10)],(oM [.t,.n 190,.n 191,.n 192,.n 193] 201 43 (bw a1)++[(200,.var 115 (kM [.f] (aO r3.2))),(210,.var 43 (kM [.f,.n 190,.n 191,.n 192,.n 193] (bw a1))),(211,.var 182 (kM [.z,.z] (jp dM)))]),212⟩ ?_ ?_
 .exact az Hj
 refine cC H ?_ ?_<;>intro H
 .refine aa H λr11 q11 H=>sA (cw (o:=200) (bW.h q11)) ?_
  cases H
  refine cg ((eL (o:=211) (j:=3))) ?_
  refine cg ((eo (o:=211) (j:=23) 5 1 ζ)) ?_
  refine cg (wS 212 210) ?_
  refine cg ((wB 210 (([]:List Int).length))) ?_
  exact dv
 refine cC H ?_ ?_<;>intro H
 .refine aa H λr12 q12 H=>sA (cw (o:=200) (bW.h q12)) ?_
  cases H
  refine cg ((eL (o:=211) (j:=3))) ?_
  refine cg ((eo (o:=211) (j:=23) 5 1 ζ)) ?_
  refine cg (wS 212 210) ?_
  refine cg ((wB 210 (([]:List Int).length))) ?_
  exact dv
 refine cC H ?_ ?_<;>intro H
 .refine aa H λr13 q13 H=>sA (cw (o:=200) (bW.h q13)) ?_
  cases H
  refine cg ((eL (o:=211) (j:=3))) ?_
  refine cg ((eo (o:=211) (j:=23) 5 1 ζ)) ?_
  refine cg (wS 212 210) ?_
  refine cg ((wB 210 (([]:List Int).length))) ?_
  exact dv
 refine aa H λv14 Hj H=>jA ⟨[(0,tP 200),(3,tP 210),(4,tP 211),(75,tB v14)],(oM [.t,.n 190,.n 191,.n 192,.n 193] 201 43 (bw a1)++[(200,.var 115 (kM [.f] (aO r3.2))),(210,.var 43 (kM [.f,.n 190,.n 191,.n 192,.n 193] (bw a1))),(211,.var 182 (kM [.z,.z] (jp dM)))]),212⟩ ?_ ?_
 .exact az Hj
 refine cC H ?_ ?_<;>intro H
 .refine cC H ?_ ?_<;>intro H
  .refine aa H λr15 q15 H=>sA (cwv [(190,190),(191,191),(192,192),(193,193),(201,201),(200,200)] [(210,212)] 213 (zy27.h q15)) ?_
   cases H
   refine cg ((eL (o:=211) (j:=3))) ?_
   refine cg (wS 212 210) ?_
   exact dv
  obtain⟨⟨v16,v20⟩,Hj,H⟩:=ob H
  refine jR ⟨[(0,tP 200),(3,tP 210),(4,tP 211),(93,tB v16)],(oM [.t,.n 190,.n 191,.n 192,.n 193] 201 43 (bw a1)++[(200,.var 115 (kM [.f] (aO v20))),(210,.var 43 (kM [.f,.n 190,.n 191,.n 192,.n 193] (bw a1))),(211,.var 182 (kM [.z,.z] (jp dM)))]),212⟩ ?_ ?_
  .refine gC Hj ?_ ?_<;>intro H
   .refine aa H λr21 q21 H=>sG (cw (o:=200) (jh.h q21)) ?_
    exact ai H
   exact ai H
  refine cC H ?_ ?_<;>intro H
  .refine aa H λr22 q22 H=>nA (ca (hF:=Gg.h q22)) ?_
   refine aa H λr23 q23 H=>sA (cw (o:=200) (bW.h q23)) ?_
   refine aa H λr24 q24 H=>sA (cw (o:=200) (bW.h q24)) ?_
   refine cC H ?_ ?_<;>intro H
   .cases H
    refine cg ((eL (o:=211) (j:=3))) ?_
    refine cg ((eo (o:=211) (j:=23) 5 1 ζ)) ?_
    refine cg (wS 212 210) ?_
    refine cg ((wB 210 (([]:List Int).length))) ?_
    exact dv
   refine cC H ?_ ?_<;>intro H
   .cases H
    refine cg ((eL (o:=211) (j:=3))) ?_
    refine cg ((eo (o:=211) (j:=23) 5 1 ζ)) ?_
    refine cg (wS 212 210) ?_
    refine cg ((wB 210 (([]:List Int).length))) ?_
    exact dv
   cases H
   refine cg ((eL (o:=211) (j:=3))) ?_
   refine cg ((eo (o:=211) (j:=23) 5 1 ζ)) ?_
   refine cg (wS 212 210) ?_
   refine cg ((wB 210 (([]:List Int).length))) ?_
   exact dv
  cases H
  refine cg ((eL (o:=211) (j:=3))) ?_
  refine cg ((eo (o:=211) (j:=23) 5 1 ζ)) ?_
  refine cg (wS 212 210) ?_
  refine cg ((wB 210 (([]:List Int).length))) ?_
  exact dv
 obtain⟨⟨v25,v29⟩,Hj,H⟩:=ob H
 refine jR ⟨[(0,tP 200),(3,tP 210),(4,tP 211),(93,tB v25)],(oM [.t,.n 190,.n 191,.n 192,.n 193] 201 43 (bw a1)++[(200,.var 115 (kM [.f] (aO v29))),(210,.var 43 (kM [.f,.n 190,.n 191,.n 192,.n 193] (bw a1))),(211,.var 182 (kM [.z,.z] (jp dM)))]),212⟩ ?_ ?_
 .refine gC Hj ?_ ?_<;>intro H
  .refine aa H λr30 q30 H=>sG (cw (o:=200) (jh.h q30)) ?_
   exact ai H
  exact ai H
 refine cC H ?_ ?_<;>intro H
 .refine aa H λr31 q31 H=>nA (ca (hF:=Gg.h q31)) ?_
  refine aa H λr32 q32 H=>sA (cw (o:=200) (bW.h q32)) ?_
  refine aa H λr33 q33 H=>sA (cw (o:=200) (bW.h q33)) ?_
  refine cC H ?_ ?_<;>intro H
  .cases H
   refine cg ((eL (o:=211) (j:=3))) ?_
   refine cg ((eo (o:=211) (j:=23) 5 1 ζ)) ?_
   refine cg (wS 212 210) ?_
   refine cg ((wB 210 (([]:List Int).length))) ?_
   exact dv
  refine cC H ?_ ?_<;>intro H
  .cases H
   refine cg ((eL (o:=211) (j:=3))) ?_
   refine cg ((eo (o:=211) (j:=23) 5 1 ζ)) ?_
   refine cg (wS 212 210) ?_
   refine cg ((wB 210 (([]:List Int).length))) ?_
   exact dv
  cases H
  refine cg ((eL (o:=211) (j:=3))) ?_
  refine cg ((eo (o:=211) (j:=23) 5 1 ζ)) ?_
  refine cg (wS 212 210) ?_
  refine cg ((wB 210 (([]:List Int).length))) ?_
  exact dv
 cases H
 refine cg ((eL (o:=211) (j:=3))) ?_
 refine cg ((eo (o:=211) (j:=23) 5 1 ζ)) ?_
 refine cg (wS 212 210) ?_
 refine cg ((wB 210 (([]:List Int).length))) ?_
 exact dv⟩
end Go.AM
