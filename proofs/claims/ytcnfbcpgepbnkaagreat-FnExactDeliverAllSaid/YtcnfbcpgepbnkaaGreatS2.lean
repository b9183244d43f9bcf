/- A part. -/
import Derived.Test.YtcnfbcpgepbnkaaGreatG
set_option linter.unusedVariables false
open Option renaming some->ς,none->ξ
open Bool renaming true->ζ,false->η
open True renaming intro->θ
open Option renaming bind->abX
namespace Go.AM
open Go.Proofs
open Tryz
attribute [local irreducible] AWN NS AWO AWR AWC DR DZ cp ec iter
set_option maxRecDepth 100000
set_option maxHeartbeats 40000000
variable{a0 a1:Int}{r:Bool}
def AO(a0:bh):Option bh:=
 cond (dH 8 (([]:List Int)++a0.aV).length) (ς {a0 with aV:=(([]:List Int)++a0.aV)}) ξ
instance sl30Plan_c{a0:bh}{r:bh}:FC prog (AO a0=ς r) 121 [.agg (eB a0)] [.agg (qM [.o] (mM r))]:=gG func121 ntmps121
def cX(a0:Int)(a1:Int)(a2:Int):Option Bool:=
 abX (cond (leB a1 a0) (ς (leB a0 a2)) (ς η)) λ(v1:Bool)=>ς v1
instance YJ{a2:Int} :FC prog (cX a0 a1 a2=ς r) 27 [aI a0,aI a1,aI a2] [.c (.d (.b r))]:=gG func27 ntmps27 (hb 10 6)
def qs(a0:dh):Option Bool:=
 abX (cX a0.sk 1 6) λr1=>abX (cond r1 (cond (leB 0 a0.sk) (abX (cX a0.iK 0 (WR ((Jz .i64 1 a0.sk)-1))) λr3=>ς r3) ξ) (ς η)) λ(v2:Bool)=>ς v2
instance Vn{a0:dh} :FC prog (qs a0=ς r) 68 [.agg (mK a0)] [.c (.d (.b r))]:=gG func68 ntmps68 (hb 6 2)
def fT(a0:Int):Option Bool:=
 abX (cX a0 1 2147483646) λr1=>ς r1
instance WL:FC prog (fT a0=ς r) 197 [aI a0] [.c (.d (.b r))]:=gG func197 ntmps197
def fc(a0:cf):Option Bool:=
 abX (cX a0.dF 0 3) λr1=>abX (cond r1 (abX (cX a0.bW 0 99) λr3=>ς r3) (ς η)) λ(v2:Bool)=>ς v2
instance II{a0:cf} :FC prog (fc a0=ς r) 282 [.agg (f5 a0)] [.c (.d (.b r))]:=gG func282 ntmps282 (hb 6 2)
def og(a0:ik):Option Bool:=
 abX (fc a0.ID) λr1=>abX (cond r1 (abX (fT a0.fg) λr3=>cond r3 (abX (cX a0.dE 0 999999) λr4=>ς r4) (ς η)) (ς η)) λ(v2:Bool)=>ς v2
instance Vo{a0:ik} :FC prog (og a0=ς r) 198 [.agg (yS a0)] [.c (.d (.b r))]:=gG func198 ntmps198 (hb 6 2)
def fJ(a0:aj):Int->Option (bN (Int) (Bool))
 |v9=>cond (ltB v9 (a0.aD.length:Int)) (abX (ix a0.aD v9) λx10=>cond (ltB 60 (x10.bk.length:Int)) (dn (ς η)) (ς (.next (WR (v9+1))))) (dn (abX (cond (eqB a0.bK (WR ((a0.aD.length:Int)+1))) (cond (leB (a0.aD.length:Int) 24) (ς (leB (a0.am.length:Int) 8)) (ς η)) (ς η)) λ(v11:Bool)=>ς v11))
def hP(a0:aj):Int->Option (bN (Int) (Bool))
 |v1=>cond (ltB v1 (a0.am.length:Int)) (abX (ix a0.am v1) λx2=>abX (cX x2.cP (WR (a0.bK+1)) (WR ((WR (a0.bK+8))-1))) λr3=>abX (cond (!r3) (ς ζ) (cond (ltB 0 v1) (abX (ix a0.am (WR (v1-1))) λx5=>abX (ix a0.am v1) λx6=>cond (leB x6.cP x5.cP) (ς ζ) (abX (ix a0.am v1) λx7=>ς (ltB 60 (x7.bk.length:Int)))) (abX (ix a0.am v1) λx8=>ς (ltB 60 (x8.bk.length:Int))))) λ(v4:Bool)=>cond v4 (dn (ς η)) (ς (.next (WR (v1+1))))) (dn (iter (fJ a0) FU 0))
def iB(a0:aj):Option Bool:=
 iter (hP a0) FU 0
instance zD{a0:aj} :FC prog (iB a0=ς r) 199 [.agg (dw a0)] [.c (.d (.b r))]:=gG func199 ntmps199 (hl 0 3) (hb 27 56) (hl 2 4) (hb 79 2)
def nW(a0:av):Option Bool:=
 abX (cX a0.bV 2 3) λr1=>abX (cond r1 (abX (fT a0.bj) λr3=>ς (!r3)) (ς η)) λ(v2:Bool)=>cond v2 (ς η) (abX (og a0.dJ) λr4=>abX (cond r4 (abX (cX a0.bV 0 3) λr6=>cond r6 (abX (cX a0.bJ 0 5) λr7=>cond r7 (abX (cX a0.ak 0 999999) λr8=>cond r8 (abX (cX a0.aU 0 999999) λr9=>cond r9 (abX (cX a0.bj 0 2147483646) λr10=>cond r10 (abX (cX a0.mH 0 3) λr11=>cond r11 (abX (iB a0.bY) λr12=>ς r12) (ς η)) (ς η)) (ς η)) (ς η)) (ς η)) (ς η)) (ς η)) λ(v5:Bool)=>ς v5)
instance Rq{a0:av} :FC prog (nW a0=ς r) 126 [.agg (aZ a0)] [.c (.d (.b r))]:=gG func126 ntmps126 (hb 6 11) (hb 15 2)
def eg(a0:be):Option Bool:=
 abX (fc a0.ID) λr1=>abX (cond r1 (abX (fT a0.fg) λr3=>cond r3 (abX (cX a0.cP 0 999999) λr4=>ς r4) (ς η)) (ς η)) λ(v2:Bool)=>ς v2
instance ET{a0:be} :FC prog (eg a0=ς r) 200 [.agg (ei a0)] [.c (.d (.b r))]:=gG func200 ntmps200 (hb 6 2)
def fy(a0:bh):Int->Option (bN (Int) (Bool))
 |v1=>cond (ltB v1 (a0.aV.length:Int)) (abX (ix a0.aV v1) λx2=>abX (cX x2 0 3) λr3=>abX (cond (!r3) (ς ζ) (cond (ltB 0 v1) (abX (ix a0.aV (WR (v1-1))) λx5=>abX (ix a0.aV v1) λx6=>ς (leB x6 x5)) (ς η))) λ(v4:Bool)=>cond v4 (dn (ς η)) (ς (.next (WR (v1+1))))) (dn (abX (cX a0.ij 1 1000) λr7=>abX (cond r7 (abX (cX a0.ic 1 4) λr9=>cond r9 (abX (cX a0.ig 1 100000) λr10=>ς r10) (ς η)) (ς η)) λ(v8:Bool)=>ς v8))
def gM(a0:bh):Option Bool:=
 iter (fy a0) FU 0
instance IJ{a0:bh} :FC prog (gM a0=ς r) 201 [.agg (eB a0)] [.c (.d (.b r))]:=gG func201 ntmps201 (hl 0 3) (hb 18 35) (hb 39 2)
def nZ(a0:cT):Option Bool:=
 abX (cX a0.mG 0 2) λr1=>abX (cond r1 (abX (cX a0.kF 0 4) λr3=>cond r3 (abX (cX a0.mH 0 3) λr4=>ς r4) (ς η)) (ς η)) λ(v2:Bool)=>ς v2
instance Rr{a0:cT} :FC prog (nZ a0=ς r) 202 [.agg (lr a0)] [.c (.d (.b r))]:=gG func202 ntmps202 (hb 6 2)
def gY(a0:cU):Option Bool:=
 abX (cond (leB 0 a0.bi) (abX (cX a0.dg 0 100000) λr2=>cond r2 (abX (cX a0.gO 0 a0.dg) λr3=>ς r3) (ς η)) (ς η)) λ(v1:Bool)=>ς v1
instance Si{a0:cU} :FC prog (gY a0=ς r) 203 [.agg (mJ a0)] [.c (.d (.b r))]:=gG func203 ntmps203 (hb 6 2)
def j0(a0:aF):Int->Option (bN (Int) (Bool))
 |v1=>cond (ltB v1 (a0.aJ.length:Int)) (abX (ix a0.aJ v1) λx2=>abX (cond (!eqB x2.cP (WR ((WR (a0.bK-(a0.aJ.length:Int)))+v1))) (ς ζ) (abX (ix a0.aJ v1) λx4=>ς (ltB 60 (x4.bk.length:Int)))) λ(v3:Bool)=>cond v3 (dn (ς η)) (ς (.next (WR (v1+1))))) (dn (abX (cX a0.bK 1 100000) λr5=>abX (cond r5 (cond (leB (a0.aJ.length:Int) 8) (ς (leB 1 (WR (a0.bK-(a0.aJ.length:Int))))) (ς η)) (ς η)) λ(v6:Bool)=>ς v6))
def oc(a0:aF):Option Bool:=
 iter (j0 a0) FU 0
instance Rs{a0:aF} :FC prog (oc a0=ς r) 283 [.agg (eA a0)] [.c (.d (.b r))]:=gG func283 ntmps283 (hl 0 3) (hb 26 35) (hb 39 2)
def me(a0:cU):Option Int:=
 abX (gY a0) λr1=>cond (!r1) (ς 0) (ς (WR (a0.dg-a0.gO)))
instance PA{a0:cU}{r:Int}:FC prog (me a0=ς r) 286 [.agg (mJ a0)] [.c (.d (.i .i64 r))]:=gG func286 ntmps286
def kw(a0:ar):Option Bool:=
 abX (cX a0.d9 1 8) λr1=>abX (cond r1 (abX (cX a0.bJ 0 5) λr3=>cond r3 (abX (cX a0.ak 0 999999) λr4=>cond r4 (abX (cX a0.aU 0 999999) λr5=>cond r5 (abX (cX a0.bW 0 1000000000000) λr6=>ς r6) (ς η)) (ς η)) (ς η)) (ς η)) λ(v2:Bool)=>ς v2
instance Rt{a0:ar} :FC prog (kw a0=ς r) 208 [.agg (cb a0)] [.c (.d (.b r))]:=gG func208 ntmps208 (hb 6 2)
def FY(a0:Int)(a1:Int):Option Int:=
 abX (cX a1 1 1000000000000) λr1=>cond (!r1) (ς 0) (cond (!eqB a1 0) (cond (!eqB a1 0) (ς (Int.tmod (WR ((Int.tmod a0 a1)+a1)) a1)) ξ) ξ)
instance sMod_c{r:Int}:FC prog (FY a0 a1=ς r) 367 [aI a0,aI a1] [.c (.d (.i .i64 r))]:=gG func367 ntmps367
def wW(a0:List Int):(Int×Int)->Option (bN (Int×Int) (Int))
 |(v1,v2)=>cond (ltB v2 (a0.length:Int)) (abX (ix a0 v2) λx6=>abX (FY x6 2147483647) λr7=>ς (.next (Int.tmod (WR ((WR ((WR (v1*1000003))+r7))+13)) 2147483647,WR (v2+1)))) (ς (.done v1))
def Pt(a0:List Int):Option Int:=
 abX (iter (wW a0) FU (11,0)) λ(v5:Int)=>ς v5
instance sHash_c{a0:List Int}{r:Int}:FC prog (Pt a0=ς r) 369 [aL (a0.map eI)] [.c (.d (.i .i64 r))]:=gG func369 ntmps369 (hm 0 3 4) (he 0 3 4)
def eo(a0:Int)(a1:List Int):Option Int:=
 cond (dH 8 ([a0]++a1).length) (cond (dH 8 (([a0]++a1)++[a0]).length) (abX (Pt (([a0]++a1)++[a0])) λr1=>ς r1) ξ) ξ
instance IK{a1:List Int}{r:Int}:FC prog (eo a0 a1=ς r) 334 [aI a0,aL (a1.map eI)] [.c (.d (.i .i64 r))]:=gG func334 ntmps334
def lH(a0:Int)(a1:Int):Option Int:=
 abX (eo a0 [1,a1]) λr1=>abX (FY r1 1000000) λr2=>ς r2
instance Sl{r:Int}:FC prog (lH a0 a1=ς r) 368 [aI a0,aI a1] [.c (.d (.i .i64 r))]:=gG func368 ntmps368
def nV(a0:cf)(a1:Int):Option Int:=
 abX (eo 29 [a0.dF,a0.bW,a1]) λr1=>ς r1
instance Rp{a0:cf}{r:Int}:FC prog (nV a0 a1=ς r) 289 [.agg (f5 a0),aI a1] [.c (.d (.i .i64 r))]:=gG func289 ntmps289
def pi(a0:cU)(a1:Int):Option (cU×Bool):=
 abX (gY a0) λr1=>abX (cond (!r1) (ς ζ) (abX (cX a1 0 (WR (a0.dg-a0.gO))) λr3=>ς (!r3))) λ(v2:Bool)=>cond v2 (ς (a0,η)) (ς ({a0 with gO:=WR (a0.gO+a1)},ζ))
instance Sg{a0:cU}{r:cU×Bool}:FC prog (pi a0 a1=ς r) 294 [.agg (mJ a0),aI a1] [.agg (qM [] (HI r.1)),.c (.d (.b r.2))]:=gG func294 ntmps294 (hb 10 19)
def jv(a0:aS):Option Bool:=
 abX (cX a0.cH 0 1) λr1=>abX (cond r1 (abX (cX a0.fj 1 100000) λr3=>cond r3 (cond (leB (a0.bk.length:Int) 60) (abX (cX a0.mu 0 2147483646) λr4=>ς r4) (ς η)) (ς η)) (ς η)) λ(v2:Bool)=>ς v2
instance Pw{a0:aS} :FC prog (jv a0=ς r) 335 [.agg (cZ a0)] [.c (.d (.b r))]:=gG func335 ntmps335 (hb 6 2)
def wU(a0:Int)(a1:List Int):(Int×List Int)->Option (bN (Int×List Int) (List Int))
 |(v1,v2)=>cond (ltB v1 (a1.length:Int)) (abX (ix a1 v1) λx7=>abX (eo a0 [v1]) λr8=>abX (FY (WR ((WR (x7))-(Int.tmod r8 256))) 256) λr9=>cond (dH 1 (v2++[IntKind.u8.wrap (r9)]).length) (ς (.next (WR (v1+1),(v2++[IntKind.u8.wrap (r9)])))) ξ) (ς (.done v2))
def AE(a0:Int)(a1:List Int):Option (List Int):=
 abX (iter (wU a0 a1) FU (0,([]:List Int))) λ(v6:List Int)=>ς v6
instance sDecrypt_c{a1:List Int}{r:List Int}:FC prog (AE a0 a1=ς r) 337 [aI a0,aL (a1.map eU8)] [.c (.own 5 1 (r.map eU8) r.length)]:=gG func337 ntmps337 (hL 0 (λ(v:Int×List Int) sl ob nx=>⟨(5,.v (.c (.w 0 v.2.length)))::(6,tI v.1)::xS [0] sl,[(0,w5 v.2)]++ob,nx⟩)) (hB 0 (λ(v:List Int) sl ob nx=>⟨(5,.v (.c (.w 0 v.length)))::(6,.any)::xS [0] sl,[(0,w5 v)]++ob,nx⟩)) (hz 5)
def jw(a0:Int)(a1:Int)(a2:Int):Option Int:=
 abX (FY a2 1000000) λr1=>abX (lH a0 a1) λr2=>abX (FY (WR (r1-r2)) 1000000) λr3=>ς r3
instance PB{a2:Int}{r:Int}:FC prog (jw a0 a1 a2=ς r) 343 [aI a0,aI a1,aI a2] [.c (.d (.i .i64 r))]:=gG func343 ntmps343
def pk(a0:Int)(a1:Int)(a2:bL):Option Int:=
 abX (jw a0 a2.dT a2.fK) λr1=>abX (eo a0 [2,a2.dT,r1]) λr2=>cond (!eqB a2.mu r2) (ς 1) (cond (leB r1 a1) (ς 2) (cond (ltB a1 (WR (r1-1000))) (ς 3) (ς 0)))
instance Sn{a2:bL}{r:Int}:FC prog (pk a0 a1 a2=ς r) 342 [aI a0,aI a1,.agg (fM a2)] [.c (.d (.i .i64 r))]:=gG func342 ntmps342
def qv(a0:Int)(a1:Int)(a2:Int):Option Int:=
 abX (cX a2 0 999999) λr1=>cond (!r1) (ς (-1)) (abX (eo a0 [5,a1,a2]) λr2=>abX (FY r2 1000) λr3=>ς (WR ((WR (1000000*r3))+a2)))
instance Vt{a2:Int}{r:Int}:FC prog (qv a0 a1 a2=ς r) 344 [aI a0,aI a1,aI a2] [.c (.d (.i .i64 r))]:=gG func344 ntmps344
end Go.AM
