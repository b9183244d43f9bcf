/- A part. -/
import Derived.Test.YtigcecmbknoijaaGreatDoorG
set_option linter.unusedVariables false
open Option renaming some->ς,none->ξ
open Bool renaming true->ζ,false->η
open True renaming intro->θ
open Option renaming bind->ZS
open Int renaming tmod->ZT
namespace Go.AM
open Go.Proofs
open Tryz
attribute [local irreducible] AWN NS AWO AWR AWC DR DZ cM eN iter
set_option maxRecDepth 100000
set_option maxHeartbeats 40000000
variable{a0 a1:Int}{r:Bool}
def cU(a0:Int)(a1:Int)(a2:Int):Option Bool:=
 ZS (cond (leB a1 a0) (ς (leB a0 a2)) (ς η)) λ(v1:Bool)=>ς v1
instance MC{a2:Int} :FC prog (cU a0 a1 a2=ς r) 36 [aI a0,aI a1,aI a2] [.c (.d (.b r))]:=gG func36 ntmps36 (hb 10 6)
def oK(a0:Int):Option an:=
 ZS (cU a0 0 100000) λr1=>ZS (cond (!r1) (ς 0) (ς a0)) λ(v2:Int)=>ς {tf with fL:=v2,bN:=v2}
instance Ts{r:an}:FC prog (oK a0=ς r) 65 [aI a0] [.agg (qM [.z] (du r))]:=gG func65 ntmps65 (hi 5 0)
def kB(a0:an):Option an:=
 cond (cN 16 (([]:List aG)++a0.aC).length) (ς {a0 with aC:=(([]:List aG)++a0.aC)}) ξ
instance Xp{a0:an}{r:an}:FC prog (kB a0=ς r) 108 [.agg (dX a0)] [.agg (qM [.o] (du r))]:=gG func108 ntmps108
def kx(a0:aT):Option Bool:=
 ZS (cU a0.bp 1 8) λr1=>ZS (cond r1 (ZS (cU a0.bg 0 5) λr3=>cond r3 (ZS (cU a0.ag 0 999999) λr4=>cond r4 (ZS (cU a0.aZ 0 999999) λr5=>cond r5 (ZS (cU a0.bZ 0 1000000000000) λr6=>ς r6) (ς η)) (ς η)) (ς η)) (ς η)) λ(v2:Bool)=>ς v2
instance Oc{a0:aT} :FC prog (kx a0=ς r) 124 [.agg (eM a0)] [.c (.d (.b r))]:=gG func124 ntmps124 (hb 6 2)
def Aw(a0:Int)(a1:Int):Option Int:=
 ZS (cU a1 1 1000000000000) λr1=>cond (!r1) (ς 0) (cond (!eqB a1 0) (cond (!eqB a1 0) (ς (ZT (WR ((ZT a0 a1)+a1)) a1)) ξ) ξ)
instance sMod_c{r:Int}:FC prog (Aw a0 a1=ς r) 16 [aI a0,aI a1] [.c (.d (.i .i64 r))]:=gG func16 ntmps16
def vh(a0:List Int):(Int×Int)->Option (cH (Int×Int) (Int))
 |(v1,v2)=>cond (ltB v2 (a0.length:Int)) (ZS (ix a0 v2) λx6=>ZS (Aw x6 2147483647) λr7=>ς (.next (ZT (WR ((WR ((WR (v1*1000003))+r7))+13)) 2147483647,WR (v2+1)))) (ς (.done v1))
def Mo(a0:List Int):Option Int:=
 ZS (iter (vh a0) FU (11,0)) λ(v5:Int)=>ς v5
instance sHash_c{a0:List Int}{r:Int}:FC prog (Mo a0=ς r) 169 [aL (a0.map eI)] [.c (.d (.i .i64 r))]:=gG func169 ntmps169 (hm 0 3 4) (he 0 3 4)
def eF(a0:Int)(a1:List Int):Option Int:=
 cond (cN 8 ([a0]++a1).length) (cond (cN 8 (([a0]++a1)++[a0]).length) (ZS (Mo (([a0]++a1)++[a0])) λr1=>ς r1) ξ) ξ
instance Gf{a1:List Int}{r:Int}:FC prog (eF a0 a1=ς r) 131 [aI a0,aL (a1.map eI)] [.c (.d (.i .i64 r))]:=gG func131 ntmps131
def lu(a0:Int)(a1:Int):Option Int:=
 ZS (eF a0 [1,a1]) λr1=>ZS (Aw r1 1000000) λr2=>ς r2
instance OQ{r:Int}:FC prog (lu a0 a1=ς r) 130 [aI a0,aI a1] [.c (.d (.i .i64 r))]:=gG func130 ntmps130
def gI(a0:Int):Option Bool:=
 ZS (cU a0 1 2147483646) λr1=>ς r1
instance To:FC prog (gI a0=ς r) 126 [aI a0] [.c (.d (.b r))]:=gG func126 ntmps126
def f9(a0:cG):Option Bool:=
 ZS (cU a0.dE 0 3) λr1=>ZS (cond r1 (ZS (cU a0.bZ 0 99) λr3=>ς r3) (ς η)) λ(v2:Bool)=>ς v2
instance Gd{a0:cG} :FC prog (f9 a0=ς r) 213 [.agg (mB a0)] [.c (.d (.b r))]:=gG func213 ntmps213 (hb 6 2)
def mT(a0:lj):Option Bool:=
 ZS (f9 a0.ID) λr1=>ZS (cond r1 (ZS (gI a0.gS) λr3=>cond r3 (ZS (cU a0.dq 0 999999) λr4=>ς r4) (ς η)) (ς η)) λ(v2:Bool)=>ς v2
instance RQ{a0:lj} :FC prog (mT a0=ς r) 205 [.agg (Jx a0)] [.c (.d (.b r))]:=gG func205 ntmps205 (hb 6 2)
def jH(a0:Int)(a1:Int)(a2:Int):Option Int:=
 ZS (Aw a2 1000000) λr1=>ZS (lu a0 a1) λr2=>ZS (Aw (WR (r1-r2)) 1000000) λr3=>ς r3
instance My{a2:Int}{r:Int}:FC prog (jH a0 a1 a2=ς r) 207 [aI a0,aI a1,aI a2] [.c (.d (.i .i64 r))]:=gG func207 ntmps207
def lv(a0:Int)(a1:Int)(a2:cY):Option Int:=
 ZS (jH a0 a2.fT a2.ji) λr1=>ZS (eF a0 [2,a2.fT,r1]) λr2=>cond (!eqB a2.kf r2) (ς 1) (cond (leB r1 a1) (ς 2) (cond (ltB a1 (WR (r1-1000))) (ς 3) (ς 0)))
instance OS{a2:cY}{r:Int}:FC prog (lv a0 a1 a2=ς r) 206 [aI a0,aI a1,.agg (tz a2)] [.c (.d (.i .i64 r))]:=gG func206 ntmps206
def px(a0:Int)(a1:Int)(a2:Int):Option Int:=
 ZS (cU a2 0 999999) λr1=>cond (!r1) (ς (-1)) (ZS (eF a0 [5,a1,a2]) λr2=>ZS (Aw r2 1000) λr3=>ς (WR ((WR (1000000*r3))+a2)))
instance RX{a2:Int}{r:Int}:FC prog (px a0 a1 a2=ς r) 208 [aI a0,aI a1,aI a2] [.c (.d (.i .i64 r))]:=gG func208 ntmps208
def i8(a0:cG)(a1:Int):Option Int:=
 ZS (eF 29 [a0.dE,a0.bZ,a1]) λr1=>ς r1
instance N8{a0:cG}{r:Int}:FC prog (i8 a0 a1=ς r) 81 [.agg (mB a0),aI a1] [.c (.d (.i .i64 r))]:=gG func81 ntmps81
def jF(a0:bC):Option Bool:=
 ZS (cU a0.dQ 0 1) λr1=>ZS (cond r1 (ZS (cU a0.eJ 1 100000) λr3=>cond r3 (cond (leB (a0.bm.length:Int) 60) (ZS (cU a0.kf 0 2147483646) λr4=>ς r4) (ς η)) (ς η)) (ς η)) λ(v2:Bool)=>ς v2
instance Mr{a0:bC} :FC prog (jF a0=ς r) 209 [.agg (gN a0)] [.c (.d (.b r))]:=gG func209 ntmps209 (hb 6 2)
def vf(a0:Int)(a1:List Int):(Int×List Int)->Option (cH (Int×List Int) (List Int))
 |(v1,v2)=>cond (ltB v1 (a1.length:Int)) (ZS (ix a1 v1) λx7=>ZS (eF a0 [v1]) λr8=>ZS (Aw (WR ((WR (x7))-(ZT r8 256))) 256) λr9=>cond (cN 1 (v2++[IntKind.u8.wrap (r9)]).length) (ς (.next (WR (v1+1),(v2++[IntKind.u8.wrap (r9)])))) ξ) (ς (.done v2))
def yO(a0:Int)(a1:List Int):Option (List Int):=
 ZS (iter (vf a0 a1) FU (0,([]:List Int))) λ(v6:List Int)=>ς v6
instance W9{a1:List Int}{r:List Int}:FC prog (yO a0 a1=ς r) 211 [aI a0,aL (a1.map eU8)] [.c (.own 5 1 (r.map eU8) r.length)]:=gG func211 ntmps211 (hL 0 (λ(v:Int×List Int) sl ob nx=>⟨(5,.v (.c (.w 0 v.2.length)))::(6,tI v.1)::xS [0] sl,[(0,w5 v.2)]++ob,nx⟩)) (hB 0 (λ(v:List Int) sl ob nx=>⟨(5,.v (.c (.w 0 v.length)))::(6,.any)::xS [0] sl,[(0,w5 v)]++ob,nx⟩)) (hz 5)
def gv(a0:aX):Int->Option (cH (Int) (Bool))
 |v9=>cond (ltB v9 (a0.a8.length:Int)) (ZS (ix a0.a8 v9) λx10=>cond (ltB 60 (x10.bm.length:Int)) (dn (ς η)) (ς (.next (WR (v9+1))))) (dn (ZS (cond (eqB a0.bF (WR ((a0.a8.length:Int)+1))) (cond (leB (a0.a8.length:Int) 24) (ς (leB (a0.aA.length:Int) 8)) (ς η)) (ς η)) λ(v11:Bool)=>ς v11))
def iQ(a0:aX):Int->Option (cH (Int) (Bool))
 |v1=>cond (ltB v1 (a0.aA.length:Int)) (ZS (ix a0.aA v1) λx2=>ZS (cU x2.c9 (WR (a0.bF+1)) (WR ((WR (a0.bF+8))-1))) λr3=>ZS (cond (!r3) (ς ζ) (cond (ltB 0 v1) (ZS (ix a0.aA (WR (v1-1))) λx5=>ZS (ix a0.aA v1) λx6=>cond (leB x6.c9 x5.c9) (ς ζ) (ZS (ix a0.aA v1) λx7=>ς (ltB 60 (x7.bm.length:Int)))) (ZS (ix a0.aA v1) λx8=>ς (ltB 60 (x8.bm.length:Int))))) λ(v4:Bool)=>cond v4 (dn (ς η)) (ς (.next (WR (v1+1))))) (dn (iter (gv a0) FU 0))
def gR(a0:aX):Option Bool:=
 iter (iQ a0) FU 0
instance qk{a0:aX} :FC prog (gR a0=ς r) 174 [.agg (oX a0)] [.c (.d (.b r))]:=gG func174 ntmps174 (hl 0 3) (hb 27 56) (hl 2 4) (hb 79 2)
def vg(a0:Int)(a1:List Int):(Int×List Int)->Option (cH (Int×List Int) (List Int))
 |(v1,v2)=>cond (ltB v1 (a1.length:Int)) (ZS (ix a1 v1) λx6=>ZS (eF a0 [v1]) λr7=>cond (cN 1 (v2++[IntKind.u8.wrap (ZT (WR ((WR (x6))+(ZT r7 256))) 256)]).length) (ς (.next (WR (v1+1),(v2++[IntKind.u8.wrap (ZT (WR ((WR (x6))+(ZT r7 256))) 256)])))) ξ) (ς (.done v2))
def yP(a0:Int)(a1:List Int):Option (List Int):=
 ZS (iter (vg a0 a1) FU (0,([]:List Int))) λ(v5:List Int)=>ς v5
instance Xa{a1:List Int}{r:List Int}:FC prog (yP a0 a1=ς r) 176 [aI a0,aL (a1.map eU8)] [.c (.own 5 1 (r.map eU8) r.length)]:=gG func176 ntmps176 (hL 0 (λ(v:Int×List Int) sl ob nx=>⟨(5,.v (.c (.w 0 v.2.length)))::(6,tI v.1)::xS [0] sl,[(0,w5 v.2)]++ob,nx⟩)) (hB 0 (λ(v:List Int) sl ob nx=>⟨(5,.v (.c (.w 0 v.length)))::(6,.any)::xS [0] sl,[(0,w5 v)]++ob,nx⟩)) (hz 5)
def ey(a0:aP):Option Bool:=
 ZS (f9 a0.ID) λr1=>ZS (cond r1 (ZS (gI a0.gS) λr3=>cond r3 (ZS (cU a0.c9 0 999999) λr4=>ς r4) (ς η)) (ς η)) λ(v2:Bool)=>ς v2
instance Cq{a0:aP} :FC prog (ey a0=ς r) 181 [.agg (eD a0)] [.c (.d (.b r))]:=gG func181 ntmps181 (hb 6 2)
def kc(a0:be):Int->Option (cH (Int) (Bool))
 |v1=>cond (ltB v1 (a0.aM.length:Int)) (ZS (ix a0.aM v1) λx2=>ZS (cond (!eqB x2.c9 (WR ((WR (a0.bF-(a0.aM.length:Int)))+v1))) (ς ζ) (ZS (ix a0.aM v1) λx4=>ς (ltB 60 (x4.bm.length:Int)))) λ(v3:Bool)=>cond v3 (dn (ς η)) (ς (.next (WR (v1+1))))) (dn (ZS (cU a0.bF 1 100000) λr5=>ZS (cond r5 (cond (leB (a0.aM.length:Int) 8) (ς (leB 1 (WR (a0.bF-(a0.aM.length:Int))))) (ς η)) (ς η)) λ(v6:Bool)=>ς v6))
def kw(a0:be):Option Bool:=
 iter (kc a0) FU 0
instance sM{a0:be} :FC prog (kw a0=ς r) 146 [.agg (mA a0)] [.c (.d (.b r))]:=gG func146 ntmps146 (hl 0 3) (hb 26 35) (hb 39 2)
def gJ(a0:dy):Option Bool:=
 ZS (cond (leB 0 a0.aH) (ZS (cU a0.cV 0 100000) λr2=>cond r2 (ZS (cU a0.fK 0 a0.cV) λr3=>ς r3) (ς η)) (ς η)) λ(v1:Bool)=>ς v1
instance OL{a0:dy} :FC prog (gJ a0=ς r) 147 [.agg (wc a0)] [.c (.d (.b r))]:=gG func147 ntmps147 (hb 6 2)
def ik(a0:dy):Option Int:=
 ZS (gJ a0) λr1=>cond (!r1) (ς 0) (ς (WR (a0.cV-a0.fK)))
instance Mv{a0:dy}{r:Int}:FC prog (ik a0=ς r) 98 [.agg (wc a0)] [.c (.d (.i .i64 r))]:=gG func98 ntmps98
def gk(a0:bY):Int->Option (cH (Int) (Bool))
 |v1=>cond (ltB v1 (a0.bX.length:Int)) (ZS (ix a0.bX v1) λx2=>ZS (cU x2 0 3) λr3=>ZS (cond (!r3) (ς ζ) (cond (ltB 0 v1) (ZS (ix a0.bX (WR (v1-1))) λx5=>ZS (ix a0.bX v1) λx6=>ς (leB x6 x5)) (ς η))) λ(v4:Bool)=>cond v4 (dn (ς η)) (ς (.next (WR (v1+1))))) (dn (ZS (cU a0.me 1 1000) λr7=>ZS (cond r7 (ZS (cU a0.mc 1 4) λr9=>cond r9 (ZS (cU a0.fF 1 100000) λr10=>ς r10) (ς η)) (ς η)) λ(v8:Bool)=>ς v8))
def ga(a0:bY):Option Bool:=
 iter (gk a0) FU 0
instance Ge{a0:bY} :FC prog (ga a0=ς r) 184 [.agg (pV a0)] [.c (.d (.b r))]:=gG func184 ntmps184 (hl 0 3) (hb 18 35) (hb 39 2)
def ny(a0:List aP)(v1:Int):Int->Option (cH (Int) (cH (Int) (Bool)))
 |v4=>cond (ltB v4 v1) (ZS (ix a0 v4) λx5=>ZS (ix a0 v1) λx6=>bif(eqB x5.ID.dE x6.ID.dE&&(eqB x5.ID.bZ x6.ID.bZ&&ζ)) then(dn (dn (ς η))) else(ς (.next (WR (v4+1))))) (dn (ς (.next (WR (v1+1)))))
def nu(a0:List aP):Int->Option (cH (Int) (Bool))
 |v1=>cond (ltB v1 (a0.length:Int)) (ZS (ix a0 v1) λx2=>ZS (ey x2) λr3=>cond (!r3) (dn (ς η)) (iter (ny a0 v1) FU 0)) (dn (ς (leB (a0.length:Int) 4)))
def rz(a0:List aP):Option Bool:=
 iter (nu a0) FU 0
instance Ty{a0:List aP} :FC prog (rz a0=ς r) 185 [aL (a0.map eD)] [.c (.d (.b r))]:=gG func185 ntmps185 (hl 0 3) (hl 2 4)
def jw(a0:ae)(a1:bJ):Option Bool:=
 ZS (cond (ltB (a0.aV.length:Int) 200) (ZS (cU a1.bk 0 (WR ((a0.av.length:Int)-1))) λr2=>cond r2 (ZS (cU a1.bg 0 (WR ((a0.d5.bI.length:Int)-1))) λr3=>ς r3) (ς η)) (ς η)) λ(v1:Bool)=>ς v1
instance Se{a0:ae}{a1:bJ} :FC prog (jw a0 a1=ς r) 160 [.agg (kK a0),.agg (eW a1)] [.c (.d (.b r))]:=gG func160 ntmps160 (hb 9 4)
def kQ(a0:bQ):Option Bool:=
 ZS (cU a0.ia 1 6) λr1=>ZS (cond r1 (cond (leB 0 a0.ia) (ZS (cU a0.fZ 0 (WR ((my .i64 1 a0.ia)-1))) λr3=>ς r3) ξ) (ς η)) λ(v2:Bool)=>ς v2
instance RO{a0:bQ} :FC prog (kQ a0=ς r) 226 [.agg (pb a0)] [.c (.d (.b r))]:=gG func226 ntmps226 (hb 6 2)
def mS(a0:dr):Option Bool:=
 ZS (cU a0.g9 0 2) λr1=>ZS (cond r1 (ZS (cU a0.fR 0 4) λr3=>cond r3 (ZS (cU a0.hP 0 3) λr4=>ς r4) (ς η)) (ς η)) λ(v2:Bool)=>ς v2
instance Oa{a0:dr} :FC prog (mS a0=ς r) 243 [.agg (w7 a0)] [.c (.d (.b r))]:=gG func243 ntmps243 (hb 6 2)
def mP(a0:ax):Option Bool:=
 ZS (cU a0.bB 2 3) λr1=>ZS (cond r1 (ZS (gI a0.bj) λr3=>ς (!r3)) (ς η)) λ(v2:Bool)=>cond v2 (ς η) (ZS (mT a0.dZ) λr4=>ZS (cond r4 (ZS (cU a0.bB 0 3) λr6=>cond r6 (ZS (cU a0.bg 0 5) λr7=>cond r7 (ZS (cU a0.ag 0 999999) λr8=>cond r8 (ZS (cU a0.aZ 0 999999) λr9=>cond r9 (ZS (cU a0.bj 0 2147483646) λr10=>cond r10 (ZS (cU a0.hP 0 3) λr11=>cond r11 (ZS (gR a0.bL) λr12=>ς r12) (ς η)) (ς η)) (ς η)) (ς η)) (ς η)) (ς η)) (ς η)) λ(v5:Bool)=>ς v5)
instance N9{a0:ax} :FC prog (mP a0=ς r) 241 [.agg (eh a0)] [.c (.d (.b r))]:=gG func241 ntmps241 (hb 6 11) (hb 15 2)
def jE(a0:bi)(a1:Int):(Int×List Int)->Option (cH (Int×List Int) (List Int))
 |(v1,v2)=>cond (ltB v1 (a0.bI.length:Int)) (ZS (ix a0.bI v1) λx6=>ZS (cond (eqB x6.g9 a1) (cond (cN 8 (v2++[v1]).length) (ς (v2++[v1])) ξ) (ς v2)) λ(v7:List Int)=>ς (.next (WR (v1+1),v7))) (ς (.done v2))
def pp(a0:bi)(a1:Int):Option (List Int):=
 ZS (iter (jE a0 a1) FU (0,([]:List Int))) λ(v5:List Int)=>ς v5
instance RJ{a0:bi}{r:List Int}:FC prog (pp a0 a1=ς r) 251 [.agg (nR a0),aI a1] [.c (.own 3 1 (r.map eI) r.length)]:=gG func251 ntmps251 (hL 0 (λ(v:Int×List Int) sl ob nx=>⟨(5,.v (.c (.w 1 v.2.length)))::(6,tI v.1)::xS [1] sl,[(1,w3 v.2)]++ob,nx⟩)) (hB 0 (λ(v:List Int) sl ob nx=>⟨(5,.v (.c (.w 1 v.length)))::(6,.any)::xS [1] sl,[(1,w3 v)]++ob,nx⟩)) (hC 22 (λ(v:List Int) sl ob nx=>⟨(5,.v (.c (.w 1 v.length)))::xS [1] sl,[(1,w3 v)]++ob,nx⟩))
def ij(a0:bi)(a2:Int):(Int×List Int)->Option (cH (Int×List Int) (List Int))
 |(v3,v4)=>ZS (cond (ltB v3 (a0.bI.length:Int)) (ZS (cU a2 1 4) λr9=>ς r9) (ς η)) λ(v8:Bool)=>cond v8 (cond (cN 8 (v4++[v3]).length) (ς (.next (WR (v3+1),(v4++[v3])))) ξ) (ς (.done v4))
def pu(a0:bi)(a1:Int)(a2:Int):Option (List Int):=
 ZS (pp a0 a1) λr1=>ZS (cond (eqB a2 1) (ς (ltB 0 (r1.length:Int))) (ς η)) λ(v2:Bool)=>cond v2 (ς r1) (ZS (iter (ij a0 a2) FU (0,([]:List Int))) λ(v7:List Int)=>ς v7)
instance RR{a0:bi}{a2:Int}{r:List Int}:FC prog (pu a0 a1 a2=ς r) 245 [.agg (nR a0),aI a1,aI a2] [.c (.own 3 1 (r.map eI) r.length)]:=gG func245 ntmps245 (hb 15 19) (hL 0 (λ(v:Int×List Int) sl ob nx=>⟨(8,.v (.c (.w 2 v.2.length)))::(9,tI v.1)::xS [2] sl,[(2,w3 v.2)]++ob,nx⟩)) (hB 0 (λ(v:List Int) sl ob nx=>⟨(8,.v (.c (.w 2 v.length)))::(9,.any)::xS [2] sl,[(2,w3 v)]++ob,nx⟩)) (hb 27 30)
def qZ(a0:dr)(a1:bi):Option (dr×List Int):=
 cond (ltB 0 a0.hP) (ς ({a0 with hP:=WR (a0.hP-1)},([]:List Int))) (ZS (cond (ltB a0.fR 4) (ς (WR (a0.fR+1))) (ς 1)) λ(v1:Int)=>ZS (pu a1 a0.g9 v1) λr2=>ς ((⟨a0.g9,v1,3⟩:dr),r2))
instance Tw{a0:dr}{a1:bi}{r:dr×List Int}:FC prog (qZ a0 a1=ς r) 235 [.agg (w7 a0),.agg (nR a1)] [.agg (qM [] (rP r.1)),.c (.own 3 1 (r.2.map eI) r.2.length)]:=gG func235 ntmps235 (hC 20 (λ(v:Int) sl ob nx=>⟨sl,[(3,.var 70 (kM [] (rP {a0 with fR:=v})))]++ob,nx⟩)) (hz 9)
def ol(a0:dy)(a1:Int):Option (dy×Bool):=
 ZS (gJ a0) λr1=>ZS (cond (!r1) (ς ζ) (ZS (cU a1 0 (WR (a0.cV-a0.fK))) λr3=>ς (!r3))) λ(v2:Bool)=>cond v2 (ς (a0,η)) (ς ({a0 with fK:=WR (a0.fK+a1)},ζ))
instance OJ{a0:dy}{r:dy×Bool}:FC prog (ol a0 a1=ς r) 249 [.agg (wc a0),aI a1] [.agg (qM [] (Fk r.1)),.c (.d (.b r.2))]:=gG func249 ntmps249 (hb 10 19)
def oG(a0:bQ)(a1:Int):Option Bool:=
 ZS (kQ a0) λr1=>ZS (cond r1 (ZS (cU a1 0 (WR (a0.ia-1))) λr3=>cond r3 (cond (leB 0 a1) (ς (eqB (uL .i64 (Ap .i64 a0.fZ a1) 1) 1)) ξ) (ς η)) (ς η)) λ(v2:Bool)=>ς v2
instance Tn{a0:bQ} :FC prog (oG a0 a1=ς r) 197 [.agg (pb a0),aI a1] [.c (.d (.b r))]:=gG func197 ntmps197 (hb 7 4)
def iz(a0:Int)(a1:Int):Option Int:=
 ZS (eF 17 [a0,a1]) λr1=>ς (ZT (WR (r1*r1)) 2147483647)
instance Jd{r:Int}:FC prog (iz a0 a1=ς r) 227 [aI a0,aI a1] [.c (.d (.i .i64 r))]:=gG func227 ntmps227
end Go.AM
