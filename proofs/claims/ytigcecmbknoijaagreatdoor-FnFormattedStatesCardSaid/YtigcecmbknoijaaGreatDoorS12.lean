/- A part. -/
import Derived.Test.YtigcecmbknoijaaGreatDoorS8
import Derived.Test.YtigcecmbknoijaaGreatDoorS9
set_option linter.unusedVariables false
open Option renaming some->ς,none->ξ
open Bool renaming true->ζ,false->η
open True renaming intro->θ
open Option renaming bind->ZS
namespace Go.AM
open Go.Proofs
open Tryz
attribute [local irreducible] AWN NS AWO AWR AWC DR DZ cM eN iter
set_option maxRecDepth 100000
set_option maxHeartbeats 40000000
variable{a0:Go.AM.ax}{r:Go.AM.bv}
def qs(a0:ax):Option bv:=
 ZS (jJ a0) λr1=>ς (⟨r1,([]:List aT)⟩:bv)
instance Xy:FC prog (qs a0=ς r) 120 [.agg (eh a0)] [.agg (qM [.o,.o,.o] (eE r))]:=gG func120 ntmps120
def sN(a0:ax):Option bv:=
 cond (!eqB a0.bB 0) (ZS (qs a0) λr1=>ς r1) (ZS (jJ a0) λr2=>ZS (qr a0) λr3=>ZS (lx {r2 with bB:=1} r3) λr4=>ς r4)
instance Kg:FC prog (sN a0=ς r) 78 [.agg (eh a0)] [.agg (qM [.d,.d,.o] (eE r))]:=gG func78 ntmps78 (hz 5)
def wz(a0:ax)(a1:aT):Option bv:=
 ZS (lg a0.dZ a1.cj) λr1=>ZS (jJ a0) λr2=>cond (!eqB r1.2.Code 0) (ς (⟨r2,([]:List aT)⟩:bv)) (ς (⟨{r2 with dZ:=r1.1,ag:=a1.ag,bj:=r1.2.xp},[(⟨3,a0.bg,a1.ag,0,r1.2.uH,c8,0⟩:aT)]⟩:bv))
instance VX{a1:aT} :FC prog (wz a0 a1=ς r) 125 [.agg (eh a0),.agg (eM a1)] [.agg (qM [.o,.o,.o] (eE r))]:=gG func125 ntmps125
def je(a0:ax)(a1:aT):Option bv:=
 ZS (kx a1) λr1=>ZS (cond (!r1) (ς ζ) (cond (!eqB a1.bg a0.bg) (ς ζ) (ς (eqB a0.bB 0)))) λ(v2:Bool)=>cond v2 (ZS (qs a0) λr3=>ς r3) (ZS (jJ a0) λr4=>ZS (cond (eqB a1.bp 2) (ς (eqB a0.bB 1)) (ς η)) λ(v5:Bool)=>cond v5 (ZS (wz a0 a1) λr6=>ς r6) (ZS (cond (eqB a1.bp 4) (cond (eqB a0.bB 1) (ZS (gI a0.bj) λr8=>cond r8 (cond (eqB a1.ag a0.ag) (ZS (gK a0.bj a1) λr9=>ς r9) (ς η)) (ς η)) (ς η)) (ς η)) λ(v7:Bool)=>cond v7 (ς (⟨{r4 with bB:=2,aZ:=a1.aZ,dx:=ζ},([]:List aT)⟩:bv)) (ZS (cond (eqB a1.bp 6) (cond (eqB a0.bB 2) (cond (eqB a1.ag a0.ag) (cond (eqB a1.aZ a0.aZ) (ZS (gK a0.bj a1) λr11=>ς r11) (ς η)) (ς η)) (ς η)) (ς η)) λ(v10:Bool)=>cond v10 (ς (⟨{r4 with dx:=ζ},([]:List aT)⟩:bv)) (ZS (cond (eqB a1.bp 7) (cond (eqB a0.bB 3) (ς (ltB a0.aZ 999999)) (ς η)) (ς η)) λ(v12:Bool)=>cond v12 (ZS (vJ {r4 with bB:=2}) λr13=>ς r13) (ZS (cond (eqB a1.bp 7) (ς (eqB a0.bB 2)) (ς η)) λ(v14:Bool)=>cond v14 (ZS (sY a0) λr15=>ZS (lx {r4 with dx:=η} r15) λr16=>ς r16) (ς (⟨r4,([]:List aT)⟩:bv)))))))
instance Og{a1:aT} :FC prog (je a0 a1=ς r) 79 [.agg (eh a0),.agg (eM a1)] [.agg (qM [.d,.d,.o] (eE r))]:=gG func79 ntmps79 (hb 9 20) (hb 29 25) (hb 41 37) (hb 73 69) (hb 103 99) (hb 120 116) (hz 17)
def oJ(a0:ax)(a1:Int):Option bv:=
 ZS (cond (eqB a1 a0.bg) (ς ζ) (ZS (cU a1 0 5) λr2=>ς (!r2))) λ(v1:Bool)=>cond v1 (ZS (qs a0) λr3=>ς r3) (ZS (jJ a0) λr4=>ZS (cond (eqB a0.bB 2) (ς (ltB a0.aZ 999999)) (ς η)) λ(v5:Bool)=>cond v5 (ZS (vJ {r4 with bg:=a1}) λr6=>ς r6) (ς (⟨{r4 with bg:=a1},([]:List aT)⟩:bv)))
instance Tr{a1:Int} :FC prog (oJ a0 a1=ς r) 83 [.agg (eh a0),aI a1] [.agg (qM [.d,.d,.o] (eE r))]:=gG func83 ntmps83 (hb 10 14) (hb 24 28)
def sO(a0:Int)(a1:Int)(a2:Int)(a3:List Int):Option bC:=
 ZS (n8 a0 (WR ((WR (2*a2))+a1))) λr1=>ZS (yP r1 a3) λr2=>ZS (zZ a0 (⟨a1,a2,r2,0⟩:bC)) λr3=>ς (⟨a1,a2,r2,r3⟩:bC)
instance Xc{a0:Int}{a1:Int}{a2:Int}{a3:List Int}{r:bC}:FC prog (sO a0 a1 a2 a3=ς r) 136 [aI a0,aI a1,aI a2,aL (a3.map eU8)] [.agg (qM [.o] (gO r))]:=gG func136 ntmps136
def lY(a0:Int)(a1:Int)(a2:Int)(a3:ab):Option aF:=
 ZS (pJ a0 a2) λr1=>ZS (sO r1 1 a3.c9 a3.bm) λr2=>ς (⟨a1,a2,r2⟩:aF)
instance Gi{a0:Int}{a1:Int}{a2:Int}{a3:ab}{r:aF}:FC prog (lY a0 a1 a2 a3=ς r) 87 [aI a0,aI a1,aI a2,.agg (aY a3)] [.agg (qM [.o] (gF r))]:=gG func87 ntmps87 (hz 1)
def ro:(Int×aj×be)->Option (cH (Int×aj×be) (aj×be))
 |(v2,v8,v9)=>cond (ltB 0 v2) (ZS (fD v8 3) λr30=>ZS (cond r30.1 (ZS (a9 r30.2 3) λr38=>ZS (iw v9 (WR (v9.bF-r38.1))) λr39=>ς (r38.2,r39)) (ZS (a9 r30.2 3) λr40=>ZS (nj r40.2 r40.1) λr41=>ZS (iA v9 r41.1) λr42=>cond r42.2.2 (ς (r41.2,r42.1)) (ς (r41.2,r42.1)))) λ((v36,v37):aj×be)=>ς (.next (WR (v2-1),v36,v37))) (ς (.done (v8,v9)))
def nk(a0:aj):Option (be×aj):=
 ZS (a9 a0 12) λr1=>ZS (iter (ro) FU (r1.1,r1.2,(⟨1,([]:List ab)⟩:be))) λ((v28,v29):aj×be)=>ς (v29,v28)
instance Oq{a0:aj}{r:be×aj}:FCV prog (nk a0=ς r) 99 [(200,.var 115 (kM [.f] (aO a0)))] [tP 200] [(200,.var 115 (kM [.f] (aO r.2)))] (.v (.agg (kM [.n 210] (dt r.1)))) [(210,WK r.1.aM)]:=⟨λH=>by
 refine fV func99 ntmps99 ?_
 refine aa H λr1 q1 H=>sA (cw (o:=200) (bW.h q1)) ?_
 obtain⟨⟨v28,v29⟩,Hj,H⟩:=ob H
 refine jB ⟨[(2,tP 210),(3,tP 211)],(oM [.n 212] 211 72 (dt v29)++[(200,.var 115 (kM [.f] (aO v28))),(210,.var 72 (kM [.z] (dt jx)))]),213⟩ ?_ ?_
 .refine iT Hj (λq=>⟨[(0,tP 200),(2,tP 210),(3,tP 211),(4,tI q.1)],(oM [.n 212] 211 72 (dt q.2.2)++[(200,.var 115 (kM [.f] (aO q.2.1))),(210,.var 72 (kM [.z] (dt jx)))]),213⟩) ?_ (by refine aJ (eo (o:=211) (j:=1) 163 2 ζ) ?_;refine aJ (wB 212 (([]:List ab).length)) ?_;exact wo)
  rintro⟨v2,v8,v9⟩ o H
  refine ad ?_
  refine cC H ?_ ?_<;>intro H
  .refine aa H λr30 q30 H=>sA (cw (o:=200) (jh.h q30)) ?_
   obtain⟨⟨v36,v37⟩,Hj,H⟩:=ob H
   refine jA ⟨[(0,tP 200),(2,tP 210),(3,tP 211),(4,tI v2)],(oM [.w 213] 211 72 (dt v37)++[(200,.var 115 (kM [.f] (aO v36))),(210,.var 72 (kM [.z] (dt jx)))]),214⟩ ?_ ?_
   .refine cC Hj ?_ ?_<;>intro H
    .refine zI (List.range 8) ?_
     refine aa H λr38 q38 H=>wA (cwx (o:=200) (bW.h q38)) ?_
     refine aa H λr39 q39 H=>zA (ca (hF:=wW.h q39)) ?_
     refine wA (spx 100446) ?_
     exact ai H
    refine zI (List.range 11) ?_
    refine aa H λr40 q40 H=>wA (cwx (o:=200) (bW.h q40)) ?_
    refine aa H λr41 q41 H=>wA (cwx (o:=200) (tZ.h q41)) ?_
    obtain⟨r42,q42,H⟩:=ob H
    rcases hb:r42.2.2 with _|_
    .have H:=bf hb H
     refine gA rfl (ca (hF:=vp q42 hb)) ?_
     simp only[hb]
     refine wI ?_
     refine wA (spx 100448) ?_
     cases H
     refine aJ (wS 213 214) ?_
     exact wo
    have H:=bt hb H
    refine gA rfl (ca (hF:=vq q42 hb)) ?_
    simp only[hb]
    refine wI ?_
    refine wA (spx 100447) ?_
    cases H
    refine aJ (wS 213 214) ?_
    exact wo
   cases H
   refine qF ?_
   refine aJ (fE 213) ?_
   refine aJ (wS 212 213) ?_
   exact wo
  exact aE H
 cases H
 refine cg (wS 212 210) ?_
 exact dv⟩
def nB(a0:ah)(a1:aT):Option Bool:=
 cond (eqB a1.bp 3) (ZS (cond (leB a1.ag a0.b7.c9) (cond (!eqB a1.ag a0.bO) (ς ζ) (ς (!eqB a1.bZ a0.aA.uH))) (ς η)) λ(v1:Bool)=>ς v1) (ZS (cond (eqB a1.bp 5) (ς (eqB a1.bp 5)) (ς (eqB a1.bp 8))) λ(v2:Bool)=>cond v2 (ZS (cond (ltB a1.ag a0.ag) (ς ζ) (cond (eqB a1.ag a0.ag) (ZS (gK a0.bj a1) λr4=>ς (!r4)) (ς η))) λ(v3:Bool)=>ς v3) (ς ζ))
instance Oy{a0:ah}{a1:aT}{r:Bool}:FC prog (nB a0 a1=ς r) 217 [.agg (cQ a0),.agg (eM a1)] [.c (.d (.b r))]:=gG func217 ntmps217 (hb 15 4) (hc 30 30) (hb 38 4)
def kS(a0:ax)(a1:aT):Option Bool:=
 cond (eqB a1.bp 2) (ZS (lv a0.dZ.gS a0.dZ.dq a1.cj) λr1=>ZS (cond (eqB r1 1) (ς ζ) (ς (eqB r1 2))) λ(v2:Bool)=>ς v2) (ZS (cond (eqB a1.bp 4) (ς (eqB a1.bp 4)) (ς (eqB a1.bp 6))) λ(v3:Bool)=>cond v3 (ZS (cond (ltB a1.ag a0.ag) (ς ζ) (cond (eqB a1.ag a0.ag) (ZS (gK a0.bj a1) λr5=>ς (!r5)) (ς η))) λ(v4:Bool)=>ς v4) (ς ζ))
instance Kt{a1:aT}{r:Bool}:FC prog (kS a0 a1=ς r) 218 [.agg (eh a0),.agg (eM a1)] [.c (.d (.b r))]:=gG func218 ntmps218 (hb 21 4) (hc 25 25) (hb 33 4)
def vM(a0:ah)(a1:ab):Option aF:=
 ZS (lY a0.bj a0.ag a0.aZ a1) λr1=>ς r1
instance Kr{a0:ah}{a1:ab}{r:aF}:FC prog (vM a0 a1=ς r) 236 [.agg (cQ a0),.agg (aY a1)] [.agg (qM [.o] (gF r))]:=gG func236 ntmps236
def jf(a0:ah):(Int×List aF)->Option (cH (Int×List aF) (List aF))
 |(v1,v2)=>ZS (cond (ltB v1 (a0.aK.aM.length:Int)) (cond (ltB v1 2) (ς (eqB a0.bB 1)) (ς η)) (ς η)) λ(v7:Bool)=>cond v7 (ZS (ix a0.aK.aM v1) λx8=>ZS (vM a0 x8) λr9=>cond (cN 64 (v2++[r9]).length) (ς (.next (WR (v1+1),(v2++[r9])))) ξ) (ς (.done v2))
def ml(a0:ah):Option (List aF):=
 ZS (iter (jf a0) FU (0,([]:List aF))) λ(v6:List aF)=>ς v6
instance xj{a0:ah}{r:List aF}:FC prog (ml a0=ς r) 223 [.agg (cQ a0)] [.c (.own 83 6 (r.map ev) r.length)]:=gG func223 ntmps223 (hL 0 (λ(v:Int×List aF) sl ob nx=>⟨(3,.v (.c (.w 1 v.2.length)))::(4,tI v.1)::xS [1] sl,[(1,w83 v.2)]++ob,nx⟩)) (hB 0 (λ(v:List aF) sl ob nx=>⟨(3,.v (.c (.w 1 v.length)))::(4,.any)::xS [1] sl,[(1,w83 v)]++ob,nx⟩)) (hb 12 20) (hx 31) (hz 5)
end Go.AM
