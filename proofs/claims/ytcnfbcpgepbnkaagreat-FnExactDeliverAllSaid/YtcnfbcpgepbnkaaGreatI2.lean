/- A part. -/
import Derived.Test.YtcnfbcpgepbnkaaGreatG
set_option linter.unusedVariables false
open Option renaming some->ς,none->ξ
open Bool renaming true->ζ,false->η
open True renaming intro->θ
open Option renaming bind->abX
open Int renaming tmod->abY
namespace Go.AM
open Go.Proofs
open Tryz
attribute [local irreducible] AWN NS AWO AWR AWC DR DZ cp ec iter
set_option maxRecDepth 100000
set_option maxHeartbeats 40000000
variable{a0 a1 a2:Int}{r:Bool}
def bM(a0:Int)(a1:Int)(a2:Int):Option Bool:=
 abX (cond (leB a1 a0) (ς (leB a0 a2)) (ς η)) λ(v1:Bool)=>ς v1
instance Mn:FC prog (bM a0 a1 a2=ς r) 37 [aI a0,aI a1,aI a2] [.c (.d (.b r))]:=gG func37 ntmps37 (hb 10 6)
def qj(a0:bz)(a1:Int):Option Bool:=
 abX (bM a1 0 (WR ((a0.bD.length:Int)-1))) λr1=>ς r1
instance iisCell_c{a0:bz} :FC prog (qj a0 a1=ς r) 88 [.agg (gm a0),aI a1] [.c (.d (.b r))]:=gG func88 ntmps88
def s9(a0:bz)(a1:Int)(a2:Int):Option Bool:=
 abX (qj a0 a1) λr1=>abX (cond r1 (abX (ix a0.bD a1) λx3=>abX (eV x3.bI a2) λr4=>ς r4) (ς η)) λ(v2:Bool)=>ς v2
instance RQ{a0:bz} :FC prog (s9 a0 a1 a2=ς r) 158 [.agg (gm a0),aI a1,aI a2] [.c (.d (.b r))]:=gG func158 ntmps158 (hb 10 6)
def qf(a0:dh):Option Bool:=
 abX (bM a0.sk 1 6) λr1=>abX (cond r1 (cond (leB 0 a0.sk) (abX (bM a0.iK 0 (WR ((Jz .i64 1 a0.sk)-1))) λr3=>ς r3) ξ) (ς η)) λ(v2:Bool)=>ς v2
instance TP{a0:dh} :FC prog (qf a0=ς r) 86 [.agg (mK a0)] [.c (.d (.b r))]:=gG func86 ntmps86 (hb 6 2)
def eY(a0:Int):Option Bool:=
 abX (bM a0 1 2147483646) λr1=>ς r1
instance Fz:FC prog (eY a0=ς r) 234 [aI a0] [.c (.d (.b r))]:=gG func234 ntmps234
def eZ(a0:cf):Option Bool:=
 abX (bM a0.dF 0 3) λr1=>abX (cond r1 (abX (bM a0.bW 0 99) λr3=>ς r3) (ς η)) λ(v2:Bool)=>ς v2
instance HT{a0:cf} :FC prog (eZ a0=ς r) 304 [.agg (f5 a0)] [.c (.d (.b r))]:=gG func304 ntmps304 (hb 6 2)
def mT(a0:ik):Option Bool:=
 abX (eZ a0.ID) λr1=>abX (cond r1 (abX (eY a0.fg) λr3=>cond r3 (abX (bM a0.dE 0 999999) λr4=>ς r4) (ς η)) (ς η)) λ(v2:Bool)=>ς v2
instance TQ{a0:ik} :FC prog (mT a0=ς r) 233 [.agg (yS a0)] [.c (.d (.b r))]:=gG func233 ntmps233 (hb 6 2)
def ef(a0:be):Option Bool:=
 abX (eZ a0.ID) λr1=>abX (cond r1 (abX (eY a0.fg) λr3=>cond r3 (abX (bM a0.cP 0 999999) λr4=>ς r4) (ς η)) (ς η)) λ(v2:Bool)=>ς v2
instance DY{a0:be} :FC prog (ef a0=ς r) 236 [.agg (ei a0)] [.c (.d (.b r))]:=gG func236 ntmps236 (hb 6 2)
def mR(a0:cT):Option Bool:=
 abX (bM a0.mG 0 2) λr1=>abX (cond r1 (abX (bM a0.kF 0 4) λr3=>cond r3 (abX (bM a0.mH 0 3) λr4=>ς r4) (ς η)) (ς η)) λ(v2:Bool)=>ς v2
instance Qi{a0:cT} :FC prog (mR a0=ς r) 238 [.agg (lr a0)] [.c (.d (.b r))]:=gG func238 ntmps238 (hb 6 2)
def jM(a0:aF):Int->Option (bN (Int) (Bool))
 |v3=>cond (ltB v3 (a0.aJ.length:Int)) (abX (ix a0.aJ v3) λx4=>abX (cond (!eqB x4.cP (WR ((WR (a0.bK-(a0.aJ.length:Int)))+v3))) (ς ζ) (ς (ltB 60 (x4.bk.length:Int)))) λ(v5:Bool)=>cond v5 (dn (ς η)) (ς (.next (WR (v3+1))))) (dn (ς ζ))
def mS(a0:aF):Option Bool:=
 abX (bM a0.bK 1 100000) λr1=>abX (cond (!r1) (ς ζ) (ς (ltB 8 (a0.aJ.length:Int)))) λ(v2:Bool)=>cond v2 (ς η) (cond (ltB (WR (a0.bK-(a0.aJ.length:Int))) 1) (ς η) (iter (jM a0) FU 0))
instance Qj{a0:aF} :FC prog (mS a0=ς r) 239 [.agg (eA a0)] [.c (.d (.b r))]:=gG func239 ntmps239 (hb 10 15) (hl 0 27) (hb 38 43)
def xt(a0:ae)(a1:Int):Option Bool:=
 abX (qj a0.gr a1) λr1=>abX (cond r1 (cond (ltB a1 6) (cond (leB 0 a1) (ς (eqB (SN .i64 (W2 .i64 a0.dy a1) 1) 0)) ξ) (ς η)) (ς η)) λ(v2:Bool)=>ς v2
instance JY{a0:ae} :FC prog (xt a0 a1=ς r) 164 [.agg (ev a0),aI a1] [.c (.d (.b r))]:=gG func164 ntmps164 (hb 9 4)
def kg(a0:ar):Option Bool:=
 abX (bM a0.d9 1 8) λr1=>abX (cond r1 (abX (bM a0.bJ 0 5) λr3=>cond r3 (abX (bM a0.ak 0 999999) λr4=>cond r4 (abX (bM a0.aU 0 999999) λr5=>cond r5 (abX (bM a0.bW 0 1000000000000) λr6=>ς r6) (ς η)) (ς η)) (ς η)) (ς η)) λ(v2:Bool)=>ς v2
instance tM{a0:ar} :FC prog (kg a0=ς r) 247 [.agg (cb a0)] [.c (.d (.b r))]:=gG func247 ntmps247 (hb 6 2)
def eD(a0:List ar):Option (List ar):=
 cond (iG 88 (a0.length:Int) (a0.length:Int)) (ς (cpL (List.replicate ((a0.length:Int)).toNat Fm) a0)) ξ
instance lA{a0:List ar}{r:List ar}:FC prog (eD a0=ς r) 272 [aL (a0.map cb)] [.c (.own 147 11 (r.map cb) r.length)]:=gG func272 ntmps272
def Qk(a0:Int)(a1:Int):Option Int:=
 abX (bM a1 1 1000000000000) λr1=>cond (!r1) (ς 0) (cond (!eqB a1 0) (abX (cond (ltB (abY a0 a1) 0) (ς (WR ((abY a0 a1)+a1))) (ς (abY a0 a1))) λ(v2:Int)=>ς v2) ξ)
instance iMod_c{r:Int}:FC prog (Qk a0 a1=ς r) 374 [aI a0,aI a1] [.c (.d (.i .i64 r))]:=gG func374 ntmps374 (hi 13 5)
def mC(a0:Int)(a1:Int):Option Int:=
 abX (Qk a1 2147483647) λr1=>ς (abY (WR ((WR ((WR (a0*1000003))+r1))+13)) 2147483647)
instance Zl{r:Int}:FC prog (mC a0 a1=ς r) 372 [aI a0,aI a1] [.c (.d (.i .i64 r))]:=gG func372 ntmps372
def lv(a1:List Int):(Int×Int)->Option (bN (Int×Int) (Int))
 |(v2,v3)=>cond (ltB v3 (a1.length:Int)) (abX (ix a1 v3) λx7=>abX (mC v2 x7) λr8=>ς (.next (r8,WR (v3+1)))) (ς (.done v2))
def ej(a0:Int)(a1:List Int):Option Int:=
 abX (mC 11 a0) λr1=>abX (iter (lv a1) FU (r1,0)) λ(v6:Int)=>abX (mC v6 a0) λr9=>ς r9
instance Xs{a1:List Int}{r:Int}:FC prog (ej a0 a1=ς r) 346 [aI a0,aL (a1.map eI)] [.c (.d (.i .i64 r))]:=gG func346 ntmps346 (hm 0 5 12) (he 0 5 12)
def ly(a0:Int)(a1:Int):Option Int:=
 abX (ej a0 [1,a1]) λr1=>ς (abY r1 1000000)
instance RU{r:Int}:FC prog (ly a0 a1=ς r) 371 [aI a0,aI a1] [.c (.d (.i .i64 r))]:=gG func371 ntmps371
def kh(a0:Int)(a1:Int)(a2:Int):Option bL:=
 abX (bM a2 0 999999) λr1=>cond (!r1) (ς cF) (abX (ly a0 a1) λr2=>abX (ej a0 [2,a1,a2]) λr3=>abX (ej a0 [3,a1]) λr4=>abX (ej a0 [4,a1,a2]) λr5=>abX (cond (eqB r5 0) (ς 1) (ς r5)) λ(v6:Int)=>ς (⟨a1,abY (WR (a2+r2)) 1000000,r3,r4,v6⟩:bL))
instance Ql{r:bL}:FC prog (kh a0 a1 a2=ς r) 345 [aI a0,aI a1,aI a2] [.agg (qM [] (mL r))]:=gG func345 ntmps345 (hC 36 (λ(v:Int) sl ob nx=>⟨sl,uC 4 4 [.d η (.i .i64 v)] ob,nx⟩))
def pK(a0:be)(a1:Int):Option (be×bL):=
 abX (ef a0) λr1=>abX (cond (!r1) (ς ζ) (ς (eqB a0.cP 999999))) λ(v2:Bool)=>cond v2 (ς (a0,cF)) (abX (kh a0.fg a1 (WR (a0.cP+1))) λr3=>ς ({a0 with cP:=WR (a0.cP+1)},r3))
instance Ad{a0:be}{r:be×bL}:FC prog (pK a0 a1=ς r) 308 [.agg (ei a0),aI a1] [.agg (qM [] (mh r.1)),.agg (qM [] (mL r.2))]:=gG func308 ntmps308 (hb 9 13) (hz 4)
def mN(a0:cf)(a1:Int):Option Int:=
 abX (ej 29 [a0.dF,a0.bW,a1]) λr1=>ς r1
instance Bh{a0:cf}{r:Int}:FC prog (mN a0 a1=ς r) 309 [.agg (f5 a0),aI a1] [.c (.d (.i .i64 r))]:=gG func309 ntmps309
def qU(a0:Int)(a1:Int):Option Int:=
 abX (ej a0 [9,a1]) λr1=>cond (eqB r1 0) (ς 1) (ς r1)
instance Xr{r:Int}:FC prog (qU a0 a1=ς r) 350 [aI a0,aI a1] [.c (.d (.i .i64 r))]:=gG func350 ntmps350
def jn(a1:List Int):(Int×Int)->Option (bN (Int×Int) (Int))
 |(v1,v2)=>cond (ltB v2 (a1.length:Int)) (abX (ix a1 v2) λx6=>abX (qU v1 x6) λr7=>ς (.next (r7,WR (v2+1)))) (ς (.done v1))
def ut(a0:Int)(a1:List Int):Option Int:=
 abX (iter (jn a1) FU (a0,0)) λ(v5:Int)=>ς v5
instance TY{a1:List Int}{r:Int}:FC prog (ut a0 a1=ς r) 373 [aI a0,aL (a1.map eI)] [.c (.d (.i .i64 r))]:=gG func373 ntmps373 (hm 0 0 9) (he 0 0 9)
def px(a0:Int)(a1:eu):Option Int:=
 abX (ut a0 a1.Steps) λr1=>ς r1
instance Wv{a1:eu}{r:Int}:FC prog (px a0 a1=ς r) 351 [aI a0,.agg (Gh a1)] [.c (.d (.i .i64 r))]:=gG func351 ntmps351
def lM(a0:aS):Option Bool:=
 abX (cond (eqB a0.cH 0) (abX (bM a0.fj 1 100000) λr2=>cond r2 (cond (leB (a0.bk.length:Int) 60) (abX (bM a0.mu 0 2147483646) λr3=>ς r3) (ς η)) (ς η)) (cond (eqB a0.cH 1) (abX (bM a0.fj 1 100000) λr4=>cond r4 (cond (leB (a0.bk.length:Int) 60) (abX (bM a0.mu 0 2147483646) λr5=>ς r5) (ς η)) (ς η)) (ς η))) λ(v1:Bool)=>ς v1
instance Ow{a0:aS} :FC prog (lM a0=ς r) 347 [.agg (cZ a0)] [.c (.d (.b r))]:=gG func347 ntmps347 (hb 6 2)
def jm(a0:Int)(a1:Int)(a2:Int):Option Int:=
 abX (Qk a2 1000000) λr1=>abX (ly a0 a1) λr2=>abX (Qk (WR (r1-r2)) 1000000) λr3=>ς r3
instance OB{r:Int}:FC prog (jm a0 a1 a2=ς r) 355 [aI a0,aI a1,aI a2] [.c (.d (.i .i64 r))]:=gG func355 ntmps355
def o3(a0:Int)(a1:Int)(a2:bL):Option Int:=
 abX (jm a0 a2.dT a2.fK) λr1=>abX (ej a0 [2,a2.dT,r1]) λr2=>cond (!eqB a2.mu r2) (ς 1) (cond (leB r1 a1) (ς 2) (cond (ltB (WR (a1+1000)) r1) (ς 3) (ς 0)))
instance RW{a2:bL}{r:Int}:FC prog (o3 a0 a1 a2=ς r) 354 [aI a0,aI a1,.agg (fM a2)] [.c (.d (.i .i64 r))]:=gG func354 ntmps354
def qh(a0:Int)(a1:Int)(a2:Int):Option Int:=
 abX (bM a2 0 999999) λr1=>cond (!r1) (ς (-1)) (abX (ej a0 [5,a1,a2]) λr2=>ς (WR ((WR (1000000*(abY r2 1000)))+a2)))
instance TS{r:Int}:FC prog (qh a0 a1 a2=ς r) 356 [aI a0,aI a1,aI a2] [.c (.d (.i .i64 r))]:=gG func356 ntmps356
def le(a0:ik)(a1:bL):Option (ik×eU):=
 abX (mT a0) λr1=>cond (!r1) (ς (a0,{gj with Code:=1})) (abX (o3 a0.fg a0.dE a1) λr2=>abX (cond (eqB r2 0) (abX (jm a0.fg a1.dT a1.fK) λr8=>abX (ej a0.fg [3,a1.dT]) λr9=>abX (kh a0.fg a1.dT r8) λr10=>ς (r8,(⟨r2,r9,r10.fg,0⟩:eU))) (abX (cond (eqB r2 2) (ς (eqB r2 2)) (ς (eqB r2 3))) λ(v11:Bool)=>abX (cond v11 (abX (qh a0.fg a1.dT a0.dE) λr13=>ς r13) (ς 0)) λ(v12:Int)=>ς (a0.dE,{gj with Code:=r2,Sx:=v12}))) λ((v6,v7):Int×eU)=>ς ({a0 with dE:=v6},v7))
instance vy{a0:ik}{a1:bL}{r:ik×eU}:FC prog (le a0 a1=ς r) 319 [.agg (yS a0),.agg (fM a1)] [.agg (qM [] (HM r.1)),.agg (qM [] (qS r.2))]:=gG func319 ntmps319 (hC 23 (λ(v:Int×eU) sl ob nx=>⟨sl,[(0,.var 123 (kM [] (HM {a0 with dE:=v.1}))),(4,.var 329 (kM [] (qS v.2)))]++fO [1] ob,nx⟩)) (hc 49 49) (hC 49 (λ(v:Int) sl ob nx=>⟨sl,uC 4 3 [.d η (.i .i64 v)] ob,nx⟩)) (hz 14)
end Go.AM
