/- A part. -/
import Derived.Test.YtigcecmbknoijaaGreatDoorS0
import Derived.Test.YtigcecmbknoijaaGreatDoorS1
import Derived.Test.YtigcecmbknoijaaGreatDoorS2
import Derived.Test.YtigcecmbknoijaaGreatDoorS3
import Derived.Test.YtigcecmbknoijaaGreatDoorS4
set_option linter.unusedVariables false
open Option renaming some->ς,none->ξ
open Bool renaming true->ζ,false->η
open True renaming intro->θ
open Option renaming bind->ZS
namespace Go.AM
open Go.Proofs
open Tryz
attribute [local irreducible] AWN NS AWO AWR AWC DR DZ cM eN iter
set_option maxRecDepth 100000
set_option maxHeartbeats 40000000
variable{a0:Go.AM.an}
def ju(a0:an):Int->Option (cH (Int) (Bool))
 |v1=>cond (ltB v1 (a0.aC.length:Int)) (ZS (ix a0.aC v1) λx2=>ZS (cond (ltB x2.aH 0) (ς ζ) (ZS (ix a0.aC v1) λx4=>ZS (cU x4.dV 1 100000) λr5=>cond (!r5) (ς ζ) (cond (ltB 0 v1) (ZS (ix a0.aC (WR (v1-1))) λx6=>ZS (ix a0.aC v1) λx7=>ς (leB x7.aH x6.aH)) (ς η)))) λ(v3:Bool)=>cond v3 (dn (ς η)) (ς (.next (WR (v1+1))))) (dn (ZS (cU a0.fL 0 100000) λr8=>ZS (cond r8 (ZS (cU a0.bN 0 a0.fL) λr10=>cond r10 (ZS (cU a0.fj 0 a0.fL) λr11=>cond r11 (cond (leB (a0.aC.length:Int) 8) (ZS (kA a0) λr12=>ς (eqB (WR ((WR (a0.bN+a0.fj))+r12)) a0.fL)) (ς η)) (ς η)) (ς η)) (ς η)) λ(v9:Bool)=>ς v9))
def fJ(a0:an):Option Bool:=
 iter (ju a0) FU 0
instance Mp{r:Bool}:FC prog (fJ a0=ς r) 109 [.agg (dX a0)] [.c (.d (.b r))]:=gG func109 ntmps109 (hl 0 3) (hb 18 47) (hb 51 2)
def Co(a0:an)(a1:Int)(a2:Int):Option (an×Bool):=
 ZS (kB a0) λr1=>ZS (fJ a0) λr2=>ZS (cond (!r2) (ς ζ) (ZS (gE a0 a1) λr4=>ZS (cU a2 0 r4) λr5=>ς (!r5))) λ(v3:Bool)=>cond v3 (ς (r1,η)) (ZS (cond (ltB 0 a2) (ZS (kC a0 a1) λr9=>ZS (yV a0.aC r9 a2) λr10=>ς {r1 with fj:=WR (a0.fj+a2),aC:=r10}) (ς r1)) λ(v8:an)=>ς (v8,ζ))
instance sDebit_c{a1:Int}{a2:Int}{r:an×Bool}:FC prog (Co a0 a1 a2=ς r) 66 [.agg (dX a0),aI a1,aI a2] [.agg (qM [.o] (du r.1)),.c (.d (.b r.2))]:=gG func66 ntmps66 (hb 14 21) (hC 24 (λ(v:an) sl ob nx=>⟨xS [4,2] sl,oM [.w 4] 3 26 (du v)++fO [2] ob,5⟩)) (hz 6)
def vk(a0:an)(a1:Int):Option an:=
 ZS (kB a0) λr1=>ZS (gE a0 a1) λr2=>ZS (fJ a0) λr3=>ZS (cond (!r3) (ς ζ) (ς (eqB r2 0))) λ(v4:Bool)=>cond v4 (ς r1) (ZS (kC a0 a1) λr5=>ZS (yV a0.aC r5 r2) λr6=>ς {r1 with bN:=WR (a0.bN+r2),aC:=r6})
instance Xd{a1:Int}{r:an}:FC prog (vk a0 a1=ς r) 68 [.agg (dX a0),aI a1] [.agg (qM [.o] (du r))]:=gG func68 ntmps68 (hb 15 18) (hz 6)
def vl(a0:an)(a1:Int)(a2:Int):Option (an×Int):=
 ZS (kB a0) λr1=>ZS (fJ a0) λr2=>ZS (cond (!r2) (ς ζ) (cond (ltB a1 0) (ς ζ) (ZS (cU a2 1 100000) λr4=>cond (!r4) (ς ζ) (cond (eqB a0.bN 0) (ς ζ) (cond (leB 8 (a0.aC.length:Int)) (ZS (kC a0 a1) λr5=>ς (ltB r5 0)) (ς η)))))) λ(v3:Bool)=>cond v3 (ς (r1,0)) (ZS (Cs a2 a0.bN) λr6=>ZS (AU a0.aC a1 r6) λr7=>ς ({r1 with bN:=WR (a0.bN-r6),aC:=r7},r6))
instance Xe{a1:Int}{a2:Int}{r:an×Int}:FC prog (vl a0 a1 a2=ς r) 69 [.agg (dX a0),aI a1,aI a2] [.agg (qM [.o] (du r.1)),.c (.d (.i .i64 r.2))]:=gG func69 ntmps69 (hb 14 39)
def Ah:(Int×aj×an)->Option (cH (Int×aj×an) (aj×an))
 |(v4,v12,v13)=>cond (ltB 0 v4) (ZS (a9 v12 4) λr49=>ZS (a9 r49.2 4) λr50=>ZS (cond (eqB r50.1 0) (ZS (gE v13 r49.1) λr60=>ZS (a9 r50.2 (WR (1+r60))) λr61=>ZS (Co v13 r49.1 r61.1) λr62=>ς (r61.2,r62.1)) (ZS (cond (eqB r50.1 1) (ZS (vk v13 r49.1) λr72=>ς (r50.2,r72)) (ZS (a9 r50.2 15) λr73=>ZS (vl v13 r49.1 (WR (1+r73.1))) λr74=>ς (r73.2,r74.1))) λ((v70,v71):aj×an)=>ς (v70,v71))) λ((v58,v59):aj×an)=>ς (.next (WR (v4-1),v58,v59))) (ς (.done (v12,v13)))
def yW(a0:aj):Option (an×aj):=
 ZS (a9 a0 60) λr1=>ZS (oK (WR (10+r1.1))) λr2=>ZS (a9 r1.2 9) λr3=>ZS (iter (Ah) FU (r3.1,r3.2,{r2 with aC:=([]:List aG)})) λ((v47,v48):aj×an)=>ς (v48,v47)
instance Ko{a0:aj}{r:an×aj}:FCV prog (yW a0=ς r) 47 [(200,.var 115 (kM [.f] (aO a0)))] [tP 200] [(200,.var 115 (kM [.f] (aO r.2)))] (.v (.agg (kM [.n 210] (du r.1)))) [(210,n99 r.1.aC)]:=gV func47 ntmps47 (hL 0 (λ(v:Int×aj×an) sl ob nx=>⟨(4,tI v.1)::xS [212] sl,oM [.n 212] 211 26 (du v.2.2)++[(200,.var 115 (kM [.f] (aO v.2.1)))]++ob,213⟩)) (hB 0 (λ(v:aj×an) sl ob nx=>⟨(4,.any)::xS [212] sl,oM [.n 212] 211 26 (du v.2)++[(200,.var 115 (kM [.f] (aO v.1)))]++ob,213⟩)) (hC 29 (λ(v:aj×an) sl ob nx=>⟨xS [213,212] sl,oM [.w 213] 211 26 (du v.2)++[(200,.var 115 (kM [.f] (aO v.1)))]++fO [212] ob,214⟩)) (hz 9) (hC 43 (λ(v:aj×an) sl ob nx=>⟨xS [213] sl,oM [.w 213] 211 26 (du v.2)++[(200,.var 115 (kM [.f] (aO v.1)))]++ob,214⟩)) (hz 7)
def tY(a0:aj):Option (an×aj):=
 ZS (yW a0) λr1=>ZS (a9 r1.2 10) λr2=>ZS (cond (eqB r2.1 0) (ZS (fg r2.2 [1,-1]) λr12=>ς (r12.2,{r1.1 with bN:=WR (r1.1.bN+r12.1)})) (ZS (cond (eqB r2.1 1) (ZS (fg r2.2 [-1,100000,100001]) λr20=>ς (r20.2,{r1.1 with fL:=r20.1})) (ZS (cond (eqB r2.1 2) (ZS (a9 r2.2 4) λr26=>ZS (a9 r26.2 3) λr27=>cond (cN 16 (r1.1.aC++[(⟨r26.1,r27.1⟩:aG)]).length) (ς ((r1.1.aC++[(⟨r26.1,r27.1⟩:aG)]),r27.2)) ξ) (ς (r1.1.aC,r2.2))) λ((v24,v25):List aG×aj)=>ς (v25,{r1.1 with aC:=v24}))) λ((v18,v19):aj×an)=>ς (v18,v19))) λ((v10,v11):aj×an)=>ς (v11,v10)
instance On{a0:aj}{r:an×aj}:FCV prog (tY a0=ς r) 27 [(200,.var 115 (kM [.f] (aO a0)))] [tP 200] [(200,.var 115 (kM [.f] (aO r.2)))] (.v (.agg (kM [.n 210] (du r.1)))) [(210,n99 r.1.aC)]:=⟨λH=>by
 refine fV func27 ntmps27 ?_
 refine aa H λr1 q1 H=>sA (cwv [(200,200)] [(210,211)] 212 (Ko.h q1)) ?_
 refine aa H λr2 q2 H=>sA (cw (o:=200) (bW.h q2)) ?_
 obtain⟨⟨v10,v11⟩,Hj,H⟩:=ob H
 refine jA ⟨[(2,tP 210),(3,tP 212)],(oM [.n 211] 212 26 (du v11)++[(200,.var 115 (kM [.f] (aO v10))),(210,.var 26 (kM [.z] (du tf)))]),213⟩ ?_ ?_
 .refine cC Hj ?_ ?_<;>intro H
  .refine jT [0,1,2,3,4,5,6,7] (h:=?_)
   refine wkb ?_
   refine pU rfl (bsx (bs rfl rfl rfl rfl rfl rfl rfl rfl) rfl) ?_
   refine wkb ?_
   refine aa H λr12 q12 H=>pU rfl (cwx (o:=200) (sQ.h q12)) ?_
   refine wkb ?_
   refine pU rfl (spx 100122) ?_
   refine wkb ?_
   refine wI ?_
   exact ai H
  obtain⟨⟨v18,v19⟩,Hj,H⟩:=ob H
  refine jA ⟨[(2,tP 210),(3,tP 212)],(oM [.n 211] 212 26 (du v19)++[(200,.var 115 (kM [.f] (aO v18))),(210,.var 26 (kM [.z] (du tf)))]),213⟩ ?_ ?_
  .refine cC Hj ?_ ?_<;>intro H
   .refine aa H λr20 q20 H=>eC (eG (o:=213)) ?_
    refine eC (fc (k:=20)) ?_
    refine sA (cw (o:=200) (sQ.h q20)) ?_
    exact ai H
   obtain⟨⟨v24,v25⟩,Hj,H⟩:=ob H
   refine jA ⟨[(2,tP 210),(3,tP 212)],(oM [.n 211] 212 26 (du {r1.1 with aC:=v24})++[(200,.var 115 (kM [.f] (aO v25))),(210,.var 26 (kM [.z] (du tf)))]),213⟩ ?_ ?_
   .refine cC Hj ?_ ?_<;>intro H
    .refine zI (List.range 11) ?_
     refine aa H λr26 q26 H=>wA (cwx (o:=200) (bW.h q26)) ?_
     refine aa H λr27 q27 H=>wA (cwx (o:=200) (bW.h q27)) ?_
     obtain⟨h,H⟩:=rq H
     refine zB cz (kh rfl (GU (enc:=bT) (ys:=r1.1.aC) (zs:=[(⟨r26.1,r27.1⟩:aG)]) h (by first|exact List.cons_ne_nil _ _|simp) rfl (λ_=>rfl) (by first|rfl|simp) (.w rfl (by first|rfl|exact lm _|simp)) rfl rfl rfl rfl rfl rfl rfl rfl rfl rfl)) cz ?_
     refine wA (spx 100126) ?_
     cases H
     refine aJ (fE 211) ?_
     exact wo
    exact ai H
   exact ai H
  exact ai H
 cases H
 refine cg (wS 211 210) ?_
 exact dv⟩
def mR(a0:bi)(v1:Int)(x2:d6):Int->Option (cH (Int) (cH (Int) (Bool)))
 |v4=>cond (ltB v4 (x2.di.length:Int)) (ZS (ix x2.di v4) λx5=>ZS (cU x5 0 (WR ((a0.bI.length:Int)-1))) λr6=>ZS (cond (!r6) (ς ζ) (cond (eqB x5 v1) (ς ζ) (cond (ltB 0 v4) (ZS (ix x2.di (WR (v4-1))) λx8=>cond (leB x5 x8) (ς ζ) (ZS (ix a0.bI x5) λx9=>ZS (wy x9.di v1) λr10=>ς (!r10))) (ZS (ix a0.bI x5) λx11=>ZS (wy x11.di v1) λr12=>ς (!r12))))) λ(v7:Bool)=>cond v7 (dn (dn (ς η))) (ς (.next (WR (v4+1))))) (dn (ς (.next (WR (v1+1)))))
def mQ(a0:bi):Int->Option (cH (Int) (Bool))
 |v1=>cond (ltB v1 (a0.bI.length:Int)) (ZS (ix a0.bI v1) λx2=>ZS (cU x2.g9 0 2) λr3=>cond (!r3) (dn (ς η)) (iter (mR a0 v1 x2) FU 0)) (dn (ZS (cU (a0.bI.length:Int) 1 6) λr13=>ς r13))
def oH(a0:bi):Option Bool:=
 iter (mQ a0) FU 0
instance Tp{a0:bi}{r:Bool}:FC prog (oH a0=ς r) 183 [.agg (nR a0)] [.c (.d (.b r))]:=gG func183 ntmps183 (hl 0 3) (hl 2 5) (hb 42 71)
def mU(a0:bi)(a1:List aP)(a2:bY)(a3:Int):(Int×List an×List ah×List ax)->Option (cH (Int×List an×List ah×List ax) (List an×List ah×List ax))
 |(v6,v7,v8,v9)=>cond (ltB v6 (a1.length:Int)) (ZS (ix a1 v6) λx17=>cond (!eqB (a0.bI.length:Int) 0) (ZS (tR (⟨x17.ID,x17.gS,x17.c9⟩:lj) (Int.tmod v6 (a0.bI.length:Int))) λr18=>cond (cN 144 (v9++[{r18 with bL:={ct with bF:=r18.bL.bF}}]).length) (ZS (oL x17 a2 v6) λr19=>cond (cN 288 (v8++[{r19 with aU:=[],aK:=(⟨r19.aK.bF,[]⟩:be)}]).length) (ZS (oK a3) λr20=>cond (cN 48 (v7++[{r20 with aC:=[]}]).length) (ς (.next (WR (v6+1),(v7++[{r20 with aC:=[]}]),(v8++[{r19 with aU:=[],aK:=(⟨r19.aK.bF,[]⟩:be)}]),(v9++[{r18 with bL:={ct with bF:=r18.bL.bF}}])))) ξ) ξ) ξ) ξ) (ς (.done (v7,v8,v9)))
def qV(a0:bi)(a1:List aP)(a2:bY)(a3:Int):Option ae:=
 ZS (oH a0) λr1=>ZS (cond (!r1) (ς ζ) (ZS (ga a2) λr3=>cond (!r3) (ς ζ) (ZS (rz a1) λr4=>ς (!r4)))) λ(v2:Bool)=>cond v2 (ς {ec with d5:=(⟨[]⟩:bi)}) (ZS (oP a0) λr5=>ZS (iter (mU a0 a1 a2 a3) FU (0,([]:List an),([]:List ah),([]:List ax))) λ((v14,v15,v16):List an×List ah×List ax)=>ς (⟨r5,v16,v15,v14,[],0,(⟨2,3⟩:bQ),0,0⟩:ae))
instance xi{a0:bi}{a1:List aP}{a2:bY}{a3:Int}{r:ae}:FCV prog (qV a0 a1 a2 a3=ς r) 149 [] [.v (.agg [.d η (.l (a0.bI.map fw))]),.v (.c (.d η (.l (a1.map eD)))),.v (.agg (kM [.f] (p3 a2))),tI a3] [] (.v (.agg (kM [.n 210,.n 211,.n 212,.n 213,.z] (bw {r with aV:=[]})))) [(210,Ny r.d5.bI),(211,n60 r.av),(212,n76 r.aD),(213,n26 r.bD)]:=gV func149 ntmps149 (hb 15 24) (hL 0 (λ(v:Int×List an×List ah×List ax) sl ob nx=>⟨(10,tI v.1)::xS [217,216,215,213] sl,[(215,n60 v.2.2.2),(216,n76 v.2.2.1),(217,n26 v.2.1)]++(uC 214 1 [.wn 215 v.2.2.2.length,.wn 216 v.2.2.1.length,.wn 217 v.2.1.length] ob),218⟩)) (hB 0 (λ(v:List an×List ah×List ax) sl ob nx=>⟨(10,.any)::xS [217,216,215,213] sl,[(215,n60 v.2.2),(216,n76 v.2.1),(217,n26 v.1)]++(uC 214 1 [.wn 215 v.2.2.length,.wn 216 v.2.1.length,.wn 217 v.1.length] ob),218⟩)) (hz 10) (hx 63) (hz 9) (hz 8)
def eZ(a0:an)(a1:dy):Option Bool:=
 ZS (fJ a0) λr1=>ZS (cond r1 (ZS (gJ a1) λr3=>cond r3 (ZS (gE a0 a1.aH) λr4=>ς (eqB r4 a1.cV)) (ς η)) (ς η)) λ(v2:Bool)=>ς v2
instance Gh{a1:dy}{r:Bool}:FC prog (eZ a0 a1=ς r) 234 [.agg (dX a0),.agg (wc a1)] [.c (.d (.b r))]:=gG func234 ntmps234 (hb 7 4)
def pw(a0:an)(a1:dy):Option (an×dy):=
 ZS (eZ a0 a1) λr1=>cond (!r1) (ZS (kB a0) λr2=>ς (r2,a1)) (ZS (Co a0 a1.aH a1.fK) λr3=>ς (r3.1,(⟨a1.aH,WR (a1.cV-a1.fK),0⟩:dy)))
instance Cv{a1:dy}{r:an×dy}:FC prog (pw a0 a1=ς r) 221 [.agg (dX a0),.agg (wc a1)] [.agg (qM [.o] (du r.1)),.agg (qM [] (Fk r.2))]:=gG func221 ntmps221 (hz 2) (hz 4)
def oo(a0:an)(a1:dy)(a2:Int):Option (an×dy):=
 ZS (vl a0 a1.aH a2) λr1=>ZS (eZ a0 a1) λr2=>ZS (cond (!r2) (ς ζ) (ZS (gJ {a1 with cV:=WR (a1.cV+r1.2)}) λr4=>ς (!r4))) λ(v3:Bool)=>cond v3 (ZS (kB a0) λr5=>ς (r5,a1)) (ς (r1.1,{a1 with cV:=WR (a1.cV+r1.2)}))
instance OO{a1:dy}{a2:Int}{r:an×dy}:FC prog (oo a0 a1 a2=ς r) 246 [.agg (dX a0),.agg (wc a1),aI a2] [.agg (qM [.o] (du r.1)),.agg (qM [] (Fk r.2))]:=gG func246 ntmps246 (hb 29 33) (hz 5) (hz 6)
end Go.AM
