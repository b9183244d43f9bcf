/- A part. -/
import Derived.Test.YtcnfbcpgepbnkaaGreatI0
import Derived.Test.YtcnfbcpgepbnkaaGreatI1
set_option linter.unusedVariables false
open Option renaming some->ς,none->ξ
open Bool renaming true->ζ,false->η
open True renaming intro->θ
open Option renaming bind->aeP
open List renaming replicate->aal
namespace Go.AM
open Go.Proofs
open Tryz
attribute [local irreducible] AWN NS AWO AWR AWC DR DZ cO eB iter
set_option maxRecDepth 100000
set_option maxHeartbeats 40000000
variable{r:Bool}
def oC(a0:aU)(v2:Int)(x3:cZ):Int->Option (bJ (Int) (bJ (Int) (Bool)))
 |v7=>cond (ltB v7 (x3.b7.length:Int)) (aeP (ix x3.b7 v7) λx8=>aeP (cond (eqB x8 v2) (ς ζ) (aeP (oU a0 x8) λr10=>cond (!r10) (ς ζ) (aeP (vB a0 x8 v2) λr11=>ς (!r11)))) λ(v9:Bool)=>cond v9 (dn (dn (ς η))) (ς (.next (WR (v7+1))))) (dn (ς (.next (WR (v2+1)))))
def oB(a0:aU):Int->Option (bJ (Int) (Bool))
 |v2=>cond (ltB v2 (a0.bh.length:Int)) (aeP (ix a0.bh v2) λx3=>aeP (bW x3.eO 0 2) λr4=>aeP (cond (!r4) (ς ζ) (aeP (oS x3.b7) λr6=>ς (!r6))) λ(v5:Bool)=>cond v5 (dn (ς η)) (iter (oC a0 v2 x3) FU 0)) (dn (ς ζ))
def uM(a0:aU):Option Bool:=
 aeP (bW (a0.bh.length:Int) 1 6) λr1=>cond (!r1) (ς η) (iter (oB a0) FU 0)
instance aay{a0:aU} :FC prog (uM a0=ς r) 85 [.agg (eh a0)] [.c (.d (.b r))]:=gG func85 ntmps85 (hl 0 15) (hb 24 29) (hl 2 33) (hb 40 52)
def jn(a0:aB):Int->Option (bJ (Int) (Bool))
 |v3=>cond (ltB v3 (a0.aA.length:Int)) (aeP (ix a0.aA v3) λx4=>aeP (cond (ltB 60 (x4.be.length:Int)) (ς ζ) (aeP (bW x4.df (WR (a0.bw+1)) (WR ((WR (a0.bw+8))-1))) λr6=>ς (!r6))) λ(v5:Bool)=>cond v5 (dn (ς η)) (aeP (cond (ltB 0 v3) (aeP (ix a0.aA (WR (v3-1))) λx8=>ς (leB x4.df x8.df)) (ς η)) λ(v7:Bool)=>cond v7 (dn (ς η)) (ς (.next (WR (v3+1)))))) (dn (ς ζ))
def jy(a0:aB):Option Bool:=
 aeP (cond (!eqB a0.bw (WR ((a0.aY.length:Int)+1))) (ς ζ) (cond (ltB 24 (a0.aY.length:Int)) (ς ζ) (aeP (uU a0.aY) λr2=>cond (!r2) (ς ζ) (ς (ltB 8 (a0.aA.length:Int)))))) λ(v1:Bool)=>cond v1 (ς η) (iter (jn a0) FU 0)
instance Qq{a0:aB} :FC prog (jy a0=ς r) 235 [.agg (dW a0)] [.c (.d (.b r))]:=gG func235 ntmps235 (hb 12 29) (hl 0 33) (hb 42 54) (hb 57 68)
def oA(a0:aF):Option Bool:=
 aeP (oE a0.ea) λr1=>aeP (cond (!r1) (ς ζ) (aeP (bW a0.bF 0 3) λr3=>cond (!r3) (ς ζ) (aeP (bW a0.bC 0 5) λr4=>ς (!r4)))) λ(v2:Bool)=>cond v2 (ς η) (aeP (bW a0.av 0 999999) λr5=>aeP (cond (!r5) (ς ζ) (aeP (bW a0.a8 0 999999) λr7=>cond (!r7) (ς ζ) (aeP (bW a0.bp 0 2147483646) λr8=>ς (!r8)))) λ(v6:Bool)=>cond v6 (ς η) (aeP (cond (eqB a0.bF 2) (aeP (gh a0.bp) λr10=>ς (!r10)) (cond (eqB a0.bF 3) (aeP (gh a0.bp) λr11=>ς (!r11)) (ς η))) λ(v9:Bool)=>cond v9 (ς η) (aeP (bW a0.eG 0 3) λr12=>aeP (cond r12 (aeP (jy a0.ct) λr14=>ς r14) (ς η)) λ(v13:Bool)=>ς v13)))
instance UF{a0:aF} :FC prog (oA a0=ς r) 159 [.agg (bG a0)] [.c (.d (.b r))]:=gG func159 ntmps159 (hb 7 18) (hb 23 34) (hb 38 48) (hb 52 2)
def gv(a0:bK):Int->Option (bJ (Int) (Bool))
 |v5=>cond (ltB v5 (a0.bi.length:Int)) (aeP (ix a0.bi v5) λx6=>aeP (bW x6 0 3) λr7=>cond (!r7) (dn (ς η)) (ς (.next (WR (v5+1))))) (dn (aeP (oS a0.bi) λr8=>ς r8))
def iH(a0:bK):Option Bool:=
 aeP (bW a0.iB 1 1000) λr1=>aeP (cond (!r1) (ς ζ) (aeP (bW a0.iA 1 4) λr3=>cond (!r3) (ς ζ) (aeP (bW a0.dR 1 100000) λr4=>ς (!r4)))) λ(v2:Bool)=>cond v2 (ς η) (iter (gv a0) FU 0)
instance LU{a0:bK} :FC prog (iH a0=ς r) 237 [.agg (ga a0)] [.c (.d (.b r))]:=gG func237 ntmps237 (hb 9 20) (hl 0 24)
def fN(a0:ag):Int->Option (bJ (Int) (Bool))
 |v23=>cond (ltB v23 (a0.aC.ar.length:Int)) (aeP (ix a0.aC.ar v23) λx24=>aeP (ix a0.aS (WR (x24.df-1))) λx25=>aeP (yY x24.be x25.be) λr26=>cond (!r26) (dn (ς η)) (ς (.next (WR (v23+1))))) (dn (aeP (iI a0) λr27=>aeP (kw a0.bM) λr28=>ς (leB r27 r28)))
def iC(a0:ag):Option Bool:=
 aeP (eR a0.bO) λr1=>aeP (cond (!r1) (ς ζ) (aeP (iH a0.fr) λr3=>cond (!r3) (ς ζ) (aeP (oD a0.fJ) λr4=>cond (!r4) (ς ζ) (aeP (lC a0.aC) λr5=>cond (!r5) (ς ζ) (aeP (i6 a0.bM) λr6=>ς (!r6)))))) λ(v2:Bool)=>cond v2 (ς η) (aeP (cond (!eqB a0.bF 0) (ς (!eqB a0.bF 1)) (ς η)) λ(v7:Bool)=>cond v7 (ς η) (aeP (cond (eqB a0.bF 1) (aeP (gh a0.bp) λr9=>cond (!r9) (ς ζ) (cond (ltB 0 a0.bN) (aeP (gh a0.aA.f9) λr10=>ς (!r10)) (ς η))) (cond (ltB 0 a0.bN) (aeP (gh a0.aA.f9) λr11=>ς (!r11)) (ς η))) λ(v8:Bool)=>cond v8 (ς η) (aeP (bW a0.bN 0 999999) λr12=>aeP (cond (!r12) (ς ζ) (aeP (bW a0.av 0 999999) λr14=>cond (!r14) (ς ζ) (aeP (bW a0.a8 0 999999) λr15=>cond (!r15) (ς ζ) (aeP (bW a0.bp 0 2147483646) λr16=>ς (!r16))))) λ(v13:Bool)=>cond v13 (ς η) (aeP (bW a0.bC 0 5) λr17=>aeP (cond (!r17) (ς ζ) (aeP (bW a0.dy 0 5) λr19=>cond (!r19) (ς ζ) (aeP (bW a0.du 0 3) λr20=>ς (!r20)))) λ(v18:Bool)=>cond v18 (ς η) (aeP (cond (ltB 24 (a0.aS.length:Int)) (ς ζ) (aeP (uU a0.aS) λr22=>cond (!r22) (ς ζ) (ς (ltB (WR ((a0.aS.length:Int)+1)) a0.aC.bw)))) λ(v21:Bool)=>cond v21 (ς η) (iter (fN a0) FU 0))))))
instance uN{a0:ag} :FC prog (iC a0=ς r) 160 [.agg (aM a0)] [.c (.d (.b r))]:=gG func160 ntmps160 (hb 9 32) (hb 36 40) (hb 44 61) (hb 66 83) (hb 88 99) (hb 104 119) (hl 0 124)
def jU(a0:aj):Int->Option (bJ (Int) (Bool))
 |v5=>cond (ltB v5 (a0.ak.length:Int)) (aeP (ix a0.ak v5) λx6=>aeP (cond (ltB x6.ax 0) (ς ζ) (aeP (bW x6.dq 1 100000) λr8=>ς (!r8))) λ(v7:Bool)=>cond v7 (dn (ς η)) (aeP (cond (ltB 0 v5) (aeP (ix a0.ak (WR (v5-1))) λx10=>ς (leB x6.ax x10.ax)) (ς η)) λ(v9:Bool)=>cond v9 (dn (ς η)) (ς (.next (WR (v5+1)))))) (dn (aeP (oP a0) λr11=>ς (eqB (WR ((WR (a0.bB+a0.eW))+r11)) a0.gu)))
def gF(a0:aj):Option Bool:=
 aeP (bW a0.gu 0 100000) λr1=>aeP (cond (!r1) (ς ζ) (aeP (bW a0.bB 0 a0.gu) λr3=>cond (!r3) (ς ζ) (aeP (bW a0.eW 0 a0.gu) λr4=>ς (!r4)))) λ(v2:Bool)=>cond v2 (ς η) (cond (ltB 8 (a0.ak.length:Int)) (ς η) (iter (jU a0) FU 0))
instance uL{a0:aj} :FC prog (gF a0=ς r) 161 [.agg (bj a0)] [.c (.d (.b r))]:=gG func161 ntmps161 (hb 9 24) (hl 0 32) (hb 40 45) (hb 48 59)
def fk(a0:aj)(a1:cq):Option Bool:=
 aeP (gF a0) λr1=>aeP (cond r1 (aeP (i6 a1) λr3=>cond r3 (aeP (oN a0 a1.ax) λr4=>ς (eqB r4 a1.cH)) (ς η)) (ς η)) λ(v2:Bool)=>ς v2
instance oF{a0:aj}{a1:cq} :FC prog (fk a0 a1=ς r) 162 [.agg (bj a0),.agg (jT a1)] [.c (.d (.b r))]:=gG func162 ntmps162 (hb 7 4)
def jX(a0:ae)(a1:Int):Option Bool:=
 aeP (ix a0.aH a1) λx1=>aeP (ix a0.aT a1) λx2=>aeP (oA x1) λr3=>aeP (cond r3 (aeP (iC x2) λr5=>cond r5 (aeP (ix a0.bu a1) λx6=>aeP (gF x6) λr7=>cond r7 (bif(eqB x1.ea.ID.dT x2.bO.ID.dT&&(eqB x1.ea.ID.cj x2.bO.ID.cj&&ζ)) then(cond (eqB x1.ea.f9 x2.bO.f9) (aeP (oU a0.fH x1.bC) λr8=>cond r8 (aeP (oU a0.fH x2.bC) λr9=>cond r9 (cond (eqB x2.bM.ax a1) (aeP (ix a0.bu a1) λx10=>aeP (fk x10 x2.bM) λr11=>ς r11) (ς η)) (ς η)) (ς η)) (ς η)) else(ς η)) (ς η)) (ς η)) (ς η)) λ(v4:Bool)=>ς v4
instance N3{a0:ae}{a1:Int} :FC prog (jX a0 a1=ς r) 87 [.agg (eC a0),aI a1] [.c (.d (.b r))]:=gG func87 ntmps87 (hb 19 4)
def ij(a0:ae):Int->Option (bJ (Int) (Bool))
 |v7=>cond (ltB v7 (a0.aJ.length:Int)) (aeP (ix a0.aJ v7) λx8=>aeP (bW x8.bS 0 (WR ((a0.aH.length:Int)-1))) λr9=>aeP (cond (!r9) (ς ζ) (aeP (oU a0.fH x8.bC) λr11=>ς (!r11))) λ(v10:Bool)=>cond v10 (dn (ς η)) (ς (.next (WR (v7+1))))) (dn (cond (leB 0 (a0.fH.bh.length:Int)) (aeP (bW a0.dK 0 (WR ((Nx .i64 1 (a0.fH.bh.length:Int))-1))) λr12=>aeP (cond r12 (aeP (bW a0.vU 0 100000) λr14=>cond r14 (ς (leB 0 a0.my)) (ς η)) (ς η)) λ(v13:Bool)=>ς v13) ξ))
def ig(a0:ae):Int->Option (bJ (Int) (Bool))
 |v5=>cond (ltB v5 (a0.aH.length:Int)) (aeP (jX a0 v5) λr6=>cond (!r6) (dn (ς η)) (ς (.next (WR (v5+1))))) (dn (cond (ltB 200 (a0.aJ.length:Int)) (ς η) (iter (ij a0) FU 0)))
def mY(a0:ae):Option Bool:=
 aeP (uM a0.fH) λr1=>aeP (cond (!r1) (ς ζ) (aeP (sq a0.lA) λr3=>cond (!r3) (ς ζ) (ς (eqB a0.lA.jS 0)))) λ(v2:Bool)=>cond v2 (ς η) (aeP (cond (ltB 4 (a0.aH.length:Int)) (ς ζ) (cond (!eqB (a0.aT.length:Int) (a0.aH.length:Int)) (ς ζ) (ς (!eqB (a0.bu.length:Int) (a0.aH.length:Int))))) λ(v4:Bool)=>cond v4 (ς η) (iter (ig a0) FU 0))
instance CS{a0:ae} :FC prog (mY a0=ς r) 36 [.agg (eC a0)] [.c (.d (.b r))]:=gG func36 ntmps36 (hb 10 21) (hb 26 43) (hl 0 47) (hl 2 62) (hb 74 81) (hb 92 2)
def kY(a1:ab)(r1:aB):Int->Option (bJ (Int) (Int))
 |v6=>aeP (cond (ltB v6 (r1.aA.length:Int)) (aeP (ix r1.aA v6) λx11=>ς (ltB x11.df a1.df)) (ς η)) λ(v10:Bool)=>cond v10 (ς (.next (WR (v6+1)))) (ς (.done v6))
def uO:aB->Option (bJ (aB) (aB))
 |v17=>aeP (cond (ltB 0 (v17.aA.length:Int)) (aeP (ix v17.aA 0) λx26=>cond (eqB x26.df v17.bw) (ς (ltB (v17.aY.length:Int) 24)) (ς η)) (ς η)) λ(v25:Bool)=>cond v25 (aeP (ix v17.aA 0) λx27=>cond (c8 24 (v17.aY++[(⟨x27.be⟩:aP)]).length) (cond (d6 v17.aA 1 v17.aA.length) (ς (.next (⟨WR (v17.bw+1),v17.aA.drop ((1:Int)).toNat,(v17.aY++[(⟨x27.be⟩:aP)])⟩:aB))) ξ) ξ) (ς (.done v17))
def oI(a0:aB)(a1:ab):Option aB:=
 aeP (kQ a0) λr1=>aeP (jy a0) λr2=>aeP (cond (!r2) (ς ζ) (cond (ltB 60 (a1.be.length:Int)) (ς ζ) (aeP (bW a1.df a0.bw (WR ((WR (a0.bw+8))-1))) λr4=>cond (!r4) (ς ζ) (aeP (BS a0 a1.df) λr5=>cond r5 (ς ζ) (ς (leB 24 (a0.aY.length:Int))))))) λ(v3:Bool)=>cond v3 (ς r1) (aeP (iter (kY a1 r1) FU 0) λ(v9:Int)=>cond (c8 32 (r1.aA++[bE]).length) (cond (d6 (r1.aA++[bE]) (WR (v9+1)) (r1.aA++[bE]).length) (cond (d6 (r1.aA++[bE]) v9 (r1.aA++[bE]).length) (aeP (ev a1.be) λr12=>aeP (ix (cpD (r1.aA++[bE]) (WR (v9+1)).toNat ((r1.aA++[bE]).drop (v9).toNat)) v9) λx13=>aeP (iter (uO) FU {r1 with aA:=((cpD (r1.aA++[bE]) (WR (v9+1)).toNat ((r1.aA++[bE]).drop (v9).toNat)).set (v9).toNat (⟨a1.df,r12⟩:ab))}) λ(v24:aB)=>cond (leB 24 (v24.aY.length:Int)) (ς {v24 with aA:=[]}) (ς v24)) ξ) ξ) ξ)
instance El{a0:aB}{a1:ab}{r:aB}:FC prog (oI a0 a1=ς r) 254 [.agg (dW a0),.agg (an a1)] [.agg (qM [.d,.o] (cr r))]:=gG func254 ntmps254 (hb 12 41) (hl 0 6) (he 0 6 6) (hb 48 58) (hL 2 (λ(v:aB) sl ob nx=>⟨(65,.any)::(68,.any)::(73,.any)::(78,.any)::xS [4,3] sl,oM [.t,.w 4] 5 127 (cr v)++fO [3] ob,nx⟩)) (hB 2 (λ(v:aB) sl ob nx=>⟨(65,.any)::(68,.any)::(73,.any)::(78,.any)::xS [4,3] sl,oM [.t,.w 4] 5 127 (cr v)++fO [3] ob,nx⟩)) (hb 91 106) (hz 11) (hz 9) (hz 8)
def rv(a0:aU):(Int×List Int)->Option (bJ (Int×List Int) (List Int))
 |(v3,v4)=>cond (ltB v3 (((aal ((a0.bh.length:Int)).toNat (0:Int)).length:Nat):Int)) (aeP (ix v4 v3) λx7=>ς (.next (WR (v3+1),(v4.set (v3).toNat v3)))) (ς (.done v4))
def rx(a0:aU):(Int×List Int)->Option (bJ (Int×List Int) (List Int))
 |(v8,v9)=>cond (ltB v8 (((aal ((a0.bh.length:Int)).toNat (0:Int)).length:Nat):Int)) (aeP (ix v9 v8) λx12=>ς (.next (WR (v8+1),(v9.set (v8).toNat v8)))) (ς (.done v9))
def sr(a0:aU)(a1:Int)(a2:Int):Option (List Int):=
 aeP (bW a2 1 4) λr1=>cond (!r1) (ς ([]:List Int)) (cond (eqB a2 1) (aeP (xa a0 a1) λr2=>cond (ltB 0 (r2.length:Int)) (ς r2) (cond (jh 8 (a0.bh.length:Int) (a0.bh.length:Int)) (aeP (iter (rv a0) FU (0,(aal ((a0.bh.length:Int)).toNat (0:Int)))) λ(v6:List Int)=>ς v6) ξ)) (cond (jh 8 (a0.bh.length:Int) (a0.bh.length:Int)) (aeP (iter (rx a0) FU (0,(aal ((a0.bh.length:Int)).toNat (0:Int)))) λ(v11:List Int)=>ς v11) ξ))
instance XX{a0:aU}{a1:Int}{a2:Int}{r:List Int}:FC prog (sr a0 a1 a2=ς r) 329 [.agg (eh a0),aI a1,aI a2] [.c (.own 3 1 (r.map eI) r.length)]:=⟨λH=>by
 refine fI func329 ntmps329 ?_
 refine aa H λr1 q1 H=>nA (ca (hF:=xb.h q1)) ?_
 refine cC H ?_ ?_<;>intro H
 .exact ao H
 refine cC H ?_ ?_<;>intro H
 .refine aa H λr2 q2 H=>nA (ca (hF:=Hu.h q2)) ?_
  refine cC H ?_ ?_<;>intro H
  .exact ao H
  obtain⟨h,H⟩:=rq H
  refine nA (mkT (enc:=eI) (za:=0) h (by rfl)) ?_
  refine aa H λv6 Hj H=>jB ⟨[(8,.v (.c (.w 2 v6.length)))],[(2,w3 v6)],3⟩ ?_ ?_
  .refine iT Hj (λq=>⟨[(8,.v (.c (.w 2 q.2.length))),(28,tI (((aal ((a0.bh.length:Int)).toNat (0:Int)).length:Nat):Int)),(29,tI q.1)],[(2,w3 q.2)],3⟩) ?_
   rintro⟨v3,v4⟩ o H
   refine ad ?_
   refine cC H ?_ ?_<;>intro H
   .refine aa H λx7 hx7 H=>nA (xwT hx7) ?_
    refine sA (soT (enc:=eI) (a':=v3) hx7) ?_
    exact aN H
   exact aE H
  exact ao H
 obtain⟨h,H⟩:=rq H
 refine nA (mkT (enc:=eI) (za:=0) h (by rfl)) ?_
 refine aa H λv11 Hj H=>jB ⟨[(8,.v (.c (.w 1 v11.length)))],[(1,w3 v11)],2⟩ ?_ ?_
 .refine iT Hj (λq=>⟨[(8,.v (.c (.w 1 q.2.length))),(28,tI (((aal ((a0.bh.length:Int)).toNat (0:Int)).length:Nat):Int)),(29,tI q.1)],[(1,w3 q.2)],2⟩) ?_
  rintro⟨v8,v9⟩ o H
  refine ad ?_
  refine cC H ?_ ?_<;>intro H
  .refine aa H λx12 hx12 H=>nA (xwT hx12) ?_
   refine sA (soT (enc:=eI) (a':=v8) hx12) ?_
   exact aN H
  exact aE H
 cases H
 exact iw⟩
def uT(a0:bL)(a1:aU):Option (bL×List Int):=
 cond (ltB 0 a0.eG) (ς ({a0 with eG:=WR (a0.eG-1)},([]:List Int))) (aeP (cond (ltB a0.em 4) (ς (WR (a0.em+1))) (ς 1)) λ(v1:Int)=>aeP (sr a1 a0.eO v1) λr2=>ς ((⟨a0.eO,v1,3⟩:bL),r2))
instance JJ{a0:bL}{a1:aU}{r:bL×List Int}:FC prog (uT a0 a1=ς r) 275 [.agg (iY a0),.agg (eh a1)] [.agg (qM [] (kO r.1)),.c (.own 3 1 (r.2.map eI) r.2.length)]:=gG func275 ntmps275 (hC 17 (λ(v:Int) sl ob nx=>⟨sl,[(0,.var 135 (kM [] (kO {a0 with em:=v})))]++ob,nx⟩)) (hz 8)
end Go.AM
