/- A part. -/
import Derived.Test.YtcnfbcpgepbnkaaGreatG
set_option linter.unusedVariables false
open Option renaming some->ς,none->ξ
open Bool renaming true->ζ,false->η
open True renaming intro->θ
open Option renaming bind->aeP
open Int renaming tmod->aeQ
namespace Go.AM
open Go.Proofs
open Tryz
attribute [local irreducible] AWN NS AWO AWR AWC DR DZ cO eB iter
set_option maxRecDepth 100000
set_option maxHeartbeats 40000000
variable{a0 a1:Int}{r:Bool}
def qE(a0:List aP):(Int×List aP)->Option (bJ (Int×List aP) (List aP))
 |(v1,v2)=>cond (ltB v1 (a0.length:Int)) (aeP (ix a0 v1) λx5=>cond (c8 1 (([]:List Int)++x5.be).length) (cond (c8 24 (v2++[(⟨(([]:List Int)++x5.be)⟩:aP)]).length) (ς (.next (WR (v1+1),(v2++[(⟨(([]:List Int)++x5.be)⟩:aP)])))) ξ) ξ) (ς (.done v2))
def uq(a0:List aP):Option (List aP):=
 aeP (iter (qE a0) FU (0,([]:List aP))) λ(v4:List aP)=>ς v4
instance acJ{a0:List aP}{r:List aP}:FC prog (uq a0=ς r) 122 [aL (a0.map b9)] [.c (.own 251 1 (r.map b9) r.length)]:=gG func122 ntmps122 (hL 0 (λ(v:Int×List aP) sl ob nx=>⟨(3,.v (.c (.w 0 v.2.length)))::(4,tI v.1)::xS [0] sl,[(0,V4 v.2)]++ob,nx⟩)) (hB 0 (λ(v:List aP) sl ob nx=>⟨(3,.v (.c (.w 0 v.length)))::(4,.any)::xS [0] sl,[(0,V4 v)]++ob,nx⟩))
def dt(a0:Int)(a1:Int)(a2:Int):Option Bool:=
 aeP (cond (leB a1 a0) (ς (leB a0 a2)) (ς η)) λ(v1:Bool)=>ς v1
instance acK{a2:Int} :FC prog (dt a0 a1 a2=ς r) 27 [aI a0,aI a1,aI a2] [.c (.d (.b r))]:=gG func27 ntmps27 (hb 10 6)
def sL(a0:dO):Option Bool:=
 aeP (dt a0.uy 1 6) λr1=>aeP (cond r1 (cond (leB 0 a0.uy) (aeP (dt a0.jS 0 (WR ((Nx .i64 1 a0.uy)-1))) λr3=>ς r3) ξ) (ς η)) λ(v2:Bool)=>ς v2
instance Zu{a0:dO} :FC prog (sL a0=ς r) 68 [.agg (ov a0)] [.c (.d (.b r))]:=gG func68 ntmps68 (hb 6 2)
def gZ(a0:Int):Option Bool:=
 aeP (dt a0 1 2147483646) λr1=>ς r1
instance aaN:FC prog (gZ a0=ς r) 197 [aI a0] [.c (.d (.b r))]:=gG func197 ntmps197
def gp(a0:cG):Option Bool:=
 aeP (dt a0.dT 0 3) λr1=>aeP (cond r1 (aeP (dt a0.cj 0 99) λr3=>ς r3) (ς η)) λ(v2:Bool)=>ς v2
instance MI{a0:cG} :FC prog (gp a0=ς r) 282 [.agg (ie a0)] [.c (.d (.b r))]:=gG func282 ntmps282 (hb 6 2)
def pn(a0:ju):Option Bool:=
 aeP (gp a0.ID) λr1=>aeP (cond r1 (aeP (gZ a0.f9) λr3=>cond r3 (aeP (dt a0.d7 0 999999) λr4=>ς r4) (ς η)) (ς η)) λ(v2:Bool)=>ς v2
instance Zv{a0:ju} :FC prog (pn a0=ς r) 198 [.agg (BJ a0)] [.c (.d (.b r))]:=gG func198 ntmps198 (hb 6 2)
def gO(a0:aB):Int->Option (bJ (Int) (Bool))
 |v9=>cond (ltB v9 (a0.aY.length:Int)) (aeP (ix a0.aY v9) λx10=>cond (ltB 60 (x10.be.length:Int)) (dn (ς η)) (ς (.next (WR (v9+1))))) (dn (aeP (cond (eqB a0.bw (WR ((a0.aY.length:Int)+1))) (cond (leB (a0.aY.length:Int) 24) (ς (leB (a0.aA.length:Int) 8)) (ς η)) (ς η)) λ(v11:Bool)=>ς v11))
def jq(a0:aB):Int->Option (bJ (Int) (Bool))
 |v1=>cond (ltB v1 (a0.aA.length:Int)) (aeP (ix a0.aA v1) λx2=>aeP (dt x2.df (WR (a0.bw+1)) (WR ((WR (a0.bw+8))-1))) λr3=>aeP (cond (!r3) (ς ζ) (cond (ltB 0 v1) (aeP (ix a0.aA (WR (v1-1))) λx5=>aeP (ix a0.aA v1) λx6=>cond (leB x6.df x5.df) (ς ζ) (aeP (ix a0.aA v1) λx7=>ς (ltB 60 (x7.be.length:Int)))) (aeP (ix a0.aA v1) λx8=>ς (ltB 60 (x8.be.length:Int))))) λ(v4:Bool)=>cond v4 (dn (ς η)) (ς (.next (WR (v1+1))))) (dn (iter (gO a0) FU 0))
def jJ(a0:aB):Option Bool:=
 iter (jq a0) FU 0
instance Ci{a0:aB} :FC prog (jJ a0=ς r) 199 [.agg (dW a0)] [.c (.d (.b r))]:=gG func199 ntmps199 (hl 0 3) (hb 27 56) (hl 2 4) (hb 79 2)
def pi(a0:aF):Option Bool:=
 aeP (dt a0.bF 2 3) λr1=>aeP (cond r1 (aeP (gZ a0.bp) λr3=>ς (!r3)) (ς η)) λ(v2:Bool)=>cond v2 (ς η) (aeP (pn a0.ea) λr4=>aeP (cond r4 (aeP (dt a0.bF 0 3) λr6=>cond r6 (aeP (dt a0.bC 0 5) λr7=>cond r7 (aeP (dt a0.av 0 999999) λr8=>cond r8 (aeP (dt a0.a8 0 999999) λr9=>cond r9 (aeP (dt a0.bp 0 2147483646) λr10=>cond r10 (aeP (dt a0.eG 0 3) λr11=>cond r11 (aeP (jJ a0.ct) λr12=>ς r12) (ς η)) (ς η)) (ς η)) (ς η)) (ς η)) (ς η)) (ς η)) λ(v5:Bool)=>ς v5)
instance VL{a0:aF} :FC prog (pi a0=ς r) 126 [.agg (bG a0)] [.c (.d (.b r))]:=gG func126 ntmps126 (hb 6 11) (hb 15 2)
def eS(a0:bI):Option Bool:=
 aeP (gp a0.ID) λr1=>aeP (cond r1 (aeP (gZ a0.f9) λr3=>cond r3 (aeP (dt a0.df 0 999999) λr4=>ς r4) (ς η)) (ς η)) λ(v2:Bool)=>ς v2
instance IQ{a0:bI} :FC prog (eS a0=ς r) 200 [.agg (eX a0)] [.c (.d (.b r))]:=gG func200 ntmps200 (hb 6 2)
def gE(a0:bK):Int->Option (bJ (Int) (Bool))
 |v1=>cond (ltB v1 (a0.bi.length:Int)) (aeP (ix a0.bi v1) λx2=>aeP (dt x2 0 3) λr3=>aeP (cond (!r3) (ς ζ) (cond (ltB 0 v1) (aeP (ix a0.bi (WR (v1-1))) λx5=>aeP (ix a0.bi v1) λx6=>ς (leB x6 x5)) (ς η))) λ(v4:Bool)=>cond v4 (dn (ς η)) (ς (.next (WR (v1+1))))) (dn (aeP (dt a0.iB 1 1000) λr7=>aeP (cond r7 (aeP (dt a0.iA 1 4) λr9=>cond r9 (aeP (dt a0.dR 1 100000) λr10=>ς r10) (ς η)) (ς η)) λ(v8:Bool)=>ς v8))
def iX(a0:bK):Option Bool:=
 iter (gE a0) FU 0
instance MJ{a0:bK} :FC prog (iX a0=ς r) 201 [.agg (ga a0)] [.c (.d (.b r))]:=gG func201 ntmps201 (hl 0 3) (hb 18 35) (hb 39 2)
def pm(a0:bL):Option Bool:=
 aeP (dt a0.eO 0 2) λr1=>aeP (cond r1 (aeP (dt a0.em 0 4) λr3=>cond r3 (aeP (dt a0.eG 0 3) λr4=>ς r4) (ς η)) (ς η)) λ(v2:Bool)=>ς v2
instance VM{a0:bL} :FC prog (pm a0=ς r) 202 [.agg (iY a0)] [.c (.d (.b r))]:=gG func202 ntmps202 (hb 6 2)
def g6(a0:cq):Option Bool:=
 aeP (cond (leB 0 a0.ax) (aeP (dt a0.cH 0 100000) λr2=>cond r2 (aeP (dt a0.et 0 a0.cH) λr3=>ς r3) (ς η)) (ς η)) λ(v1:Bool)=>ς v1
instance Wt{a0:cq} :FC prog (g6 a0=ς r) 203 [.agg (jT a0)] [.c (.d (.b r))]:=gG func203 ntmps203 (hb 6 2)
def lr(a0:aG):Int->Option (bJ (Int) (Bool))
 |v1=>cond (ltB v1 (a0.ar.length:Int)) (aeP (ix a0.ar v1) λx2=>aeP (cond (!eqB x2.df (WR ((WR (a0.bw-(a0.ar.length:Int)))+v1))) (ς ζ) (aeP (ix a0.ar v1) λx4=>ς (ltB 60 (x4.be.length:Int)))) λ(v3:Bool)=>cond v3 (dn (ς η)) (ς (.next (WR (v1+1))))) (dn (aeP (dt a0.bw 1 100000) λr5=>aeP (cond r5 (cond (leB (a0.ar.length:Int) 8) (ς (leB 1 (WR (a0.bw-(a0.ar.length:Int))))) (ς η)) (ς η)) λ(v6:Bool)=>ς v6))
def lM(a0:aG):Option Bool:=
 iter (lr a0) FU 0
instance wC{a0:aG} :FC prog (lM a0=ς r) 283 [.agg (ec a0)] [.c (.d (.b r))]:=gG func283 ntmps283 (hl 0 3) (hb 26 35) (hb 39 2)
def kJ(a0:cq):Option Int:=
 aeP (g6 a0) λr1=>cond (!r1) (ς 0) (ς (WR (a0.cH-a0.et)))
instance TT{a0:cq}{r:Int}:FC prog (kJ a0=ς r) 286 [.agg (jT a0)] [.c (.d (.i .i64 r))]:=gG func286 ntmps286
def pA(a0:aj):(Int×Int)->Option (bJ (Int×Int) (Int))
 |(v1,v2)=>cond (ltB v2 (a0.ak.length:Int)) (aeP (ix a0.ak v2) λx5=>ς (.next (WR (v1+x5.dq),WR (v2+1)))) (ς (.done v1))
def pz(a0:aj):Option Int:=
 aeP (iter (pA a0) FU (0,0)) λ(v4:Int)=>ς v4
instance VW{a0:aj}{r:Int}:FC prog (pz a0=ς r) 205 [.agg (bj a0)] [.c (.d (.i .i64 r))]:=gG func205 ntmps205 (hm 0 3 4) (he 0 3 4)
def ko(a0:aj):Int->Option (bJ (Int) (Bool))
 |v1=>cond (ltB v1 (a0.ak.length:Int)) (aeP (ix a0.ak v1) λx2=>aeP (cond (ltB x2.ax 0) (ς ζ) (aeP (ix a0.ak v1) λx4=>aeP (dt x4.dq 1 100000) λr5=>cond (!r5) (ς ζ) (cond (ltB 0 v1) (aeP (ix a0.ak (WR (v1-1))) λx6=>aeP (ix a0.ak v1) λx7=>ς (leB x7.ax x6.ax)) (ς η)))) λ(v3:Bool)=>cond v3 (dn (ς η)) (ς (.next (WR (v1+1))))) (dn (aeP (dt a0.gu 0 100000) λr8=>aeP (cond r8 (aeP (dt a0.bB 0 a0.gu) λr10=>cond r10 (aeP (dt a0.eW 0 a0.gu) λr11=>cond r11 (cond (leB (a0.ak.length:Int) 8) (aeP (pz a0) λr12=>ς (eqB (WR ((WR (a0.bB+a0.eW))+r12)) a0.gu)) (ς η)) (ς η)) (ς η)) (ς η)) λ(v9:Bool)=>ς v9))
def gI(a0:aj):Option Bool:=
 iter (ko a0) FU 0
instance TN{a0:aj} :FC prog (gI a0=ς r) 128 [.agg (bj a0)] [.c (.d (.b r))]:=gG func128 ntmps128 (hl 0 3) (hb 18 47) (hb 51 2)
def lN(a0:aD):Option Bool:=
 aeP (dt a0.eb 1 8) λr1=>aeP (cond r1 (aeP (dt a0.bC 0 5) λr3=>cond r3 (aeP (dt a0.av 0 999999) λr4=>cond r4 (aeP (dt a0.a8 0 999999) λr5=>cond r5 (aeP (dt a0.cj 0 1000000000000) λr6=>ς r6) (ς η)) (ς η)) (ς η)) (ς η)) λ(v2:Bool)=>ς v2
instance VN{a0:aD} :FC prog (lN a0=ς r) 208 [.agg (cP a0)] [.c (.d (.b r))]:=gG func208 ntmps208 (hb 6 2)
def J4(a0:Int)(a1:Int):Option Int:=
 aeP (dt a1 1 1000000000000) λr1=>cond (!r1) (ς 0) (cond (!eqB a1 0) (cond (!eqB a1 0) (ς (aeQ (WR ((aeQ a0 a1)+a1)) a1)) ξ) ξ)
instance sMod_c{r:Int}:FC prog (J4 a0 a1=ς r) 367 [aI a0,aI a1] [.c (.d (.i .i64 r))]:=gG func367 ntmps367
def z7(a0:List Int):(Int×Int)->Option (bJ (Int×Int) (Int))
 |(v1,v2)=>cond (ltB v2 (a0.length:Int)) (aeP (ix a0 v2) λx6=>aeP (J4 x6 2147483647) λr7=>ς (.next (aeQ (WR ((WR ((WR (v1*1000003))+r7))+13)) 2147483647,WR (v2+1)))) (ς (.done v1))
def TJ(a0:List Int):Option Int:=
 aeP (iter (z7 a0) FU (11,0)) λ(v5:Int)=>ς v5
instance sHash_c{a0:List Int}{r:Int}:FC prog (TJ a0=ς r) 369 [aL (a0.map eI)] [.c (.d (.i .i64 r))]:=gG func369 ntmps369 (hm 0 3 4) (he 0 3 4)
def eM(a0:Int)(a1:List Int):Option Int:=
 cond (c8 8 ([a0]++a1).length) (cond (c8 8 (([a0]++a1)++[a0]).length) (aeP (TJ (([a0]++a1)++[a0])) λr1=>ς r1) ξ) ξ
instance MK{a1:List Int}{r:Int}:FC prog (eM a0 a1=ς r) 334 [aI a0,aL (a1.map eI)] [.c (.d (.i .i64 r))]:=gG func334 ntmps334
def mT(a0:Int)(a1:Int):Option Int:=
 aeP (eM a0 [1,a1]) λr1=>aeP (J4 r1 1000000) λr2=>ς r2
instance Wx{r:Int}:FC prog (mT a0 a1=ς r) 368 [aI a0,aI a1] [.c (.d (.i .i64 r))]:=gG func368 ntmps368
def ph(a0:cG)(a1:Int):Option Int:=
 aeP (eM 29 [a0.dT,a0.cj,a1]) λr1=>ς r1
instance VK{a0:cG}{r:Int}:FC prog (ph a0 a1=ς r) 289 [.agg (ie a0),aI a1] [.c (.d (.i .i64 r))]:=gG func289 ntmps289
def qz(a0:cq)(a1:Int):Option (cq×Bool):=
 aeP (g6 a0) λr1=>aeP (cond (!r1) (ς ζ) (aeP (dt a1 0 (WR (a0.cH-a0.et))) λr3=>ς (!r3))) λ(v2:Bool)=>cond v2 (ς (a0,η)) (ς ({a0 with et:=WR (a0.et+a1)},ζ))
instance Ws{a0:cq}{r:cq×Bool}:FC prog (qz a0 a1=ς r) 294 [.agg (jT a0),aI a1] [.agg (qM [] (wZ r.1)),.c (.d (.b r.2))]:=gG func294 ntmps294 (hb 10 19)
def kF(a0:aV):Option Bool:=
 aeP (dt a0.c7 0 1) λr1=>aeP (cond r1 (aeP (dt a0.f8 1 100000) λr3=>cond r3 (cond (leB (a0.be.length:Int) 60) (aeP (dt a0.nJ 0 2147483646) λr4=>ς r4) (ς η)) (ς η)) (ς η)) λ(v2:Bool)=>ς v2
instance TP{a0:aV} :FC prog (kF a0=ς r) 335 [.agg (dL a0)] [.c (.d (.b r))]:=gG func335 ntmps335 (hb 6 2)
def zZ(a0:Int)(a1:List Int):(Int×List Int)->Option (bJ (Int×List Int) (List Int))
 |(v1,v2)=>cond (ltB v1 (a1.length:Int)) (aeP (ix a1 v1) λx7=>aeP (eM a0 [v1]) λr8=>aeP (J4 (WR ((WR (x7))-(aeQ r8 256))) 256) λr9=>cond (c8 1 (v2++[IntKind.u8.wrap (r9)]).length) (ς (.next (WR (v1+1),(v2++[IntKind.u8.wrap (r9)])))) ξ) (ς (.done v2))
def DD(a0:Int)(a1:List Int):Option (List Int):=
 aeP (iter (zZ a0 a1) FU (0,([]:List Int))) λ(v6:List Int)=>ς v6
instance sDecrypt_c{a1:List Int}{r:List Int}:FC prog (DD a0 a1=ς r) 337 [aI a0,aL (a1.map eU8)] [.c (.own 5 1 (r.map eU8) r.length)]:=gG func337 ntmps337 (hL 0 (λ(v:Int×List Int) sl ob nx=>⟨(5,.v (.c (.w 0 v.2.length)))::(6,tI v.1)::xS [0] sl,[(0,w5 v.2)]++ob,nx⟩)) (hB 0 (λ(v:List Int) sl ob nx=>⟨(5,.v (.c (.w 0 v.length)))::(6,.any)::xS [0] sl,[(0,w5 v)]++ob,nx⟩)) (hz 5)
def kK(a0:Int)(a1:Int)(a2:Int):Option Int:=
 aeP (J4 a2 1000000) λr1=>aeP (mT a0 a1) λr2=>aeP (J4 (WR (r1-r2)) 1000000) λr3=>ς r3
instance TW{a2:Int}{r:Int}:FC prog (kK a0 a1 a2=ς r) 343 [aI a0,aI a1,aI a2] [.c (.d (.i .i64 r))]:=gG func343 ntmps343
def qC(a0:Int)(a1:Int)(a2:cb):Option Int:=
 aeP (kK a0 a2.ei a2.gL) λr1=>aeP (eM a0 [2,a2.ei,r1]) λr2=>cond (!eqB a2.nJ r2) (ς 1) (cond (leB r1 a1) (ς 2) (cond (ltB a1 (WR (r1-1000))) (ς 3) (ς 0)))
instance Wz{a2:cb}{r:Int}:FC prog (qC a0 a1 a2=ς r) 342 [aI a0,aI a1,.agg (gR a2)] [.c (.d (.i .i64 r))]:=gG func342 ntmps342
def sO(a0:Int)(a1:Int)(a2:Int):Option Int:=
 aeP (dt a2 0 999999) λr1=>cond (!r1) (ς (-1)) (aeP (eM a0 [5,a1,a2]) λr2=>aeP (J4 r2 1000) λr3=>ς (WR ((WR (1000000*r3))+a2)))
instance ZB{a2:Int}{r:Int}:FC prog (sO a0 a1 a2=ς r) 344 [aI a0,aI a1,aI a2] [.c (.d (.i .i64 r))]:=gG func344 ntmps344
def kE(a0:aU)(a1:Int):(Int×List Int)->Option (bJ (Int×List Int) (List Int))
 |(v1,v2)=>cond (ltB v1 (a0.bh.length:Int)) (aeP (ix a0.bh v1) λx6=>aeP (cond (eqB x6.eO a1) (cond (c8 8 (v2++[v1]).length) (ς (v2++[v1])) ξ) (ς v2)) λ(v7:List Int)=>ς (.next (WR (v1+1),v7))) (ς (.done v2))
def sJ(a0:aU)(a1:Int):Option (List Int):=
 aeP (iter (kE a0 a1) FU (0,([]:List Int))) λ(v5:List Int)=>ς v5
instance Zs{a0:aU}{r:List Int}:FC prog (sJ a0 a1=ς r) 375 [.agg (eh a0),aI a1] [.c (.own 3 1 (r.map eI) r.length)]:=gG func375 ntmps375 (hL 0 (λ(v:Int×List Int) sl ob nx=>⟨(5,.v (.c (.w 1 v.2.length)))::(6,tI v.1)::xS [1] sl,[(1,w3 v.2)]++ob,nx⟩)) (hB 0 (λ(v:List Int) sl ob nx=>⟨(5,.v (.c (.w 1 v.length)))::(6,.any)::xS [1] sl,[(1,w3 v)]++ob,nx⟩)) (hC 22 (λ(v:List Int) sl ob nx=>⟨(5,.v (.c (.w 1 v.length)))::xS [1] sl,[(1,w3 v)]++ob,nx⟩))
def iF(a0:aU)(a2:Int):(Int×List Int)->Option (bJ (Int×List Int) (List Int))
 |(v3,v4)=>aeP (cond (ltB v3 (a0.bh.length:Int)) (aeP (dt a2 1 4) λr9=>ς r9) (ς η)) λ(v8:Bool)=>cond v8 (cond (c8 8 (v4++[v3]).length) (ς (.next (WR (v3+1),(v4++[v3])))) ξ) (ς (.done v4))
def sM(a0:aU)(a1:Int)(a2:Int):Option (List Int):=
 aeP (sJ a0 a1) λr1=>aeP (cond (eqB a2 1) (ς (ltB 0 (r1.length:Int))) (ς η)) λ(v2:Bool)=>cond v2 (ς r1) (aeP (iter (iF a0 a2) FU (0,([]:List Int))) λ(v7:List Int)=>ς v7)
instance Zx{a0:aU}{a2:Int}{r:List Int}:FC prog (sM a0 a1 a2=ς r) 358 [.agg (eh a0),aI a1,aI a2] [.c (.own 3 1 (r.map eI) r.length)]:=gG func358 ntmps358 (hb 15 19) (hL 0 (λ(v:Int×List Int) sl ob nx=>⟨(8,.v (.c (.w 2 v.2.length)))::(9,tI v.1)::xS [2] sl,[(2,w3 v.2)]++ob,nx⟩)) (hB 0 (λ(v:List Int) sl ob nx=>⟨(8,.v (.c (.w 2 v.length)))::(9,.any)::xS [2] sl,[(2,w3 v)]++ob,nx⟩)) (hb 27 30)
def vf(a0:bL)(a1:aU):Option (bL×List Int):=
 cond (ltB 0 a0.eG) (ς ({a0 with eG:=WR (a0.eG-1)},([]:List Int))) (aeP (cond (ltB a0.em 4) (ς (WR (a0.em+1))) (ς 1)) λ(v1:Int)=>aeP (sM a1 a0.eO v1) λr2=>ς ((⟨a0.eO,v1,3⟩:bL),r2))
instance aaS{a0:bL}{a1:aU}{r:bL×List Int}:FC prog (vf a0 a1=ς r) 323 [.agg (iY a0),.agg (eh a1)] [.agg (qM [] (kO r.1)),.c (.own 3 1 (r.2.map eI) r.2.length)]:=gG func323 ntmps323 (hC 20 (λ(v:Int) sl ob nx=>⟨sl,[(3,.var 135 (kM [] (kO {a0 with em:=v})))]++ob,nx⟩)) (hz 9)
def z0(a0:Int)(a1:List Int):(Int×List Int)->Option (bJ (Int×List Int) (List Int))
 |(v1,v2)=>cond (ltB v1 (a1.length:Int)) (aeP (ix a1 v1) λx6=>aeP (eM a0 [v1]) λr7=>cond (c8 1 (v2++[IntKind.u8.wrap (aeQ (WR ((WR (x6))+(aeQ r7 256))) 256)]).length) (ς (.next (WR (v1+1),(v2++[IntKind.u8.wrap (aeQ (WR ((WR (x6))+(aeQ r7 256))) 256)])))) ξ) (ς (.done v2))
def DE(a0:Int)(a1:List Int):Option (List Int):=
 aeP (iter (z0 a0 a1) FU (0,([]:List Int))) λ(v5:List Int)=>ς v5
instance sEncrypt_c{a1:List Int}{r:List Int}:FC prog (DE a0 a1=ς r) 380 [aI a0,aL (a1.map eU8)] [.c (.own 5 1 (r.map eU8) r.length)]:=gG func380 ntmps380 (hL 0 (λ(v:Int×List Int) sl ob nx=>⟨(5,.v (.c (.w 0 v.2.length)))::(6,tI v.1)::xS [0] sl,[(0,w5 v.2)]++ob,nx⟩)) (hB 0 (λ(v:List Int) sl ob nx=>⟨(5,.v (.c (.w 0 v.length)))::(6,.any)::xS [0] sl,[(0,w5 v)]++ob,nx⟩)) (hz 5)
end Go.AM
