/- A part. -/
import Derived.Test.YtfbpfflnhfcmaaaGreatG
set_option linter.unusedVariables false
open Option renaming some->ς,none->ξ
open Bool renaming true->ζ,false->η
open True renaming intro->θ
open Option renaming bind->acE
open Int renaming tmod->acF
namespace Go.AM
open Go.Proofs
open Tryz
attribute [local irreducible] AWN NS AWO AWR AWC DR DZ du gr iter
set_option maxRecDepth 100000
set_option maxHeartbeats 40000000
variable{a0 a1:Int}{r:Bool}
def dD(a0:Int)(a1:Int)(a2:Int):Option Bool:=
 acE (cond (leB a1 a0) (ς (leB a0 a2)) (ς η)) λ(v1:Bool)=>ς v1
instance QW{a2:Int} :FC prog (dD a0 a1 a2=ς r) 51 [aI a0,aI a1,aI a2] [.c (.d (.b r))]:=gG func51 ntmps51 (hb 10 6)
def hP(a0:bO):Int->Option (ci (Int) (Bool))
 |v1=>cond (ltB v1 (a0.bQ.length:Int)) (acE (ix a0.bQ v1) λx2=>acE (dD x2 0 3) λr3=>acE (cond (!r3) (ς ζ) (cond (ltB 0 v1) (acE (ix a0.bQ (WR (v1-1))) λx5=>acE (ix a0.bQ v1) λx6=>ς (leB x6 x5)) (ς η))) λ(v4:Bool)=>cond v4 (dn (ς η)) (ς (.next (WR (v1+1))))) (dn (acE (dD a0.jS 1 1000) λr7=>acE (cond r7 (acE (dD a0.jO 1 4) λr9=>cond r9 (acE (dD a0.eB 1 100000) λr10=>ς r10) (ς η)) (ς η)) λ(v8:Bool)=>ς v8))
def gX(a0:bO):Option Bool:=
 iter (hP a0) FU 0
instance KA{a0:bO} :FC prog (gX a0=ς r) 195 [.agg (iJ a0)] [.c (.d (.b r))]:=gG func195 ntmps195 (hl 0 3) (hb 18 35) (hb 39 2)
def iA(a0:Int):Option Bool:=
 acE (dD a0 1 2147483646) λr1=>ς r1
instance YA:FC prog (iA a0=ς r) 191 [aI a0] [.c (.d (.b r))]:=gG func191 ntmps191
def gU(a0:dq):Option Bool:=
 acE (dD a0.d4 0 3) λr1=>acE (cond r1 (acE (dD a0.bZ 0 99) λr3=>ς r3) (ς η)) λ(v2:Bool)=>ς v2
instance Kz{a0:dq} :FC prog (gU a0=ς r) 278 [.agg (oL a0)] [.c (.d (.b r))]:=gG func278 ntmps278 (hb 6 2)
def eK(a0:aU):Option Bool:=
 acE (gU a0.ID) λr1=>acE (cond r1 (acE (iA a0.fA) λr3=>cond r3 (acE (dD a0.cX 0 999999) λr4=>ς r4) (ς η)) (ς η)) λ(v2:Bool)=>ς v2
instance GK{a0:aU} :FC prog (eK a0=ς r) 194 [.agg (er a0)] [.c (.d (.b r))]:=gG func194 ntmps194 (hb 6 2)
def pS(a0:List aU)(v1:Int):Int->Option (ci (Int) (ci (Int) (Bool)))
 |v4=>cond (ltB v4 v1) (acE (ix a0 v4) λx5=>acE (ix a0 v1) λx6=>bif(eqB x5.ID.d4 x6.ID.d4&&(eqB x5.ID.bZ x6.ID.bZ&&ζ)) then(dn (dn (ς η))) else(ς (.next (WR (v4+1))))) (dn (ς (.next (WR (v1+1)))))
def pR(a0:List aU):Int->Option (ci (Int) (Bool))
 |v1=>cond (ltB v1 (a0.length:Int)) (acE (ix a0 v1) λx2=>acE (eK x2) λr3=>cond (!r3) (dn (ς η)) (iter (pS a0 v1) FU 0)) (dn (ς (leB (a0.length:Int) 4)))
def vd(a0:List aU):Option Bool:=
 iter (pR a0) FU 0
instance YK{a0:List aU} :FC prog (vd a0=ς r) 225 [aL (a0.map er)] [.c (.d (.b r))]:=gG func225 ntmps225 (hl 0 3) (hl 2 4)
def rp(a0:Int):Option aj:=
 acE (dD a0 0 100000) λr1=>acE (cond (!r1) (ς 0) (ς a0)) λ(v2:Int)=>ς {qt with gm:=v2,bK:=v2}
instance YE{r:aj}:FC prog (rp a0=ς r) 228 [aI a0] [.agg (qM [.z] (cO r))]:=gG func228 ntmps228 (hi 5 0)
def qJ(a0:List bI):(Int×List bI)->Option (ci (Int×List bI) (List bI))
 |(v1,v2)=>cond (ltB v1 (a0.length:Int)) (acE (ix a0 v1) λx5=>cond (cW 1 (([]:List Int)++x5.bk).length) (cond (cW 24 (v2++[(⟨(([]:List Int)++x5.bk)⟩:bI)]).length) (ς (.next (WR (v1+1),(v2++[(⟨(([]:List Int)++x5.bk)⟩:bI)])))) ξ) ξ) (ς (.done v2))
def tW(a0:List bI):Option (List bI):=
 acE (iter (qJ a0) FU (0,([]:List bI))) λ(v4:List bI)=>ς v4
instance aaj{a0:List bI}{r:List bI}:FC prog (tW a0=ς r) 237 [aL (a0.map d8)] [.c (.own 151 1 (r.map d8) r.length)]:=gG func237 ntmps237 (hL 0 (λ(v:Int×List bI) sl ob nx=>⟨(3,.v (.c (.w 0 v.2.length)))::(4,tI v.1)::xS [0] sl,[(0,M9 v.2)]++ob,nx⟩)) (hB 0 (λ(v:List bI) sl ob nx=>⟨(3,.v (.c (.w 0 v.length)))::(4,.any)::xS [0] sl,[(0,M9 v)]++ob,nx⟩))
def mJ(a0:bE):Option Bool:=
 acE (dD a0.fy 1 6) λr1=>acE (cond r1 (cond (leB 0 a0.fy) (acE (dD a0.fj 0 (WR ((mD .i64 1 a0.fy)-1))) λr3=>ς r3) ξ) (ς η)) λ(v2:Bool)=>ς v2
instance Xe{a0:bE} :FC prog (mJ a0=ς r) 59 [.agg (jg a0)] [.c (.d (.b r))]:=gG func59 ntmps59 (hb 6 2)
def pC(a0:jG):Option Bool:=
 acE (gU a0.ID) λr1=>acE (cond r1 (acE (iA a0.fA) λr3=>cond r3 (acE (dD a0.c8 0 999999) λr4=>ς r4) (ς η)) (ς η)) λ(v2:Bool)=>ς v2
instance Xf{a0:jG} :FC prog (pC a0=ς r) 192 [.agg (FB a0)] [.c (.d (.b r))]:=gG func192 ntmps192 (hb 6 2)
def iv(a0:aM):Int->Option (ci (Int) (Bool))
 |v9=>cond (ltB v9 (a0.bi.length:Int)) (acE (ix a0.bi v9) λx10=>cond (ltB 60 (x10.bk.length:Int)) (dn (ς η)) (ς (.next (WR (v9+1))))) (dn (acE (cond (eqB a0.bB (WR ((a0.bi.length:Int)+1))) (cond (leB (a0.bi.length:Int) 24) (ς (leB (a0.aA.length:Int) 8)) (ς η)) (ς η)) λ(v11:Bool)=>ς v11))
def jL(a0:aM):Int->Option (ci (Int) (Bool))
 |v1=>cond (ltB v1 (a0.aA.length:Int)) (acE (ix a0.aA v1) λx2=>acE (dD x2.cX (WR (a0.bB+1)) (WR ((WR (a0.bB+8))-1))) λr3=>acE (cond (!r3) (ς ζ) (cond (ltB 0 v1) (acE (ix a0.aA (WR (v1-1))) λx5=>acE (ix a0.aA v1) λx6=>cond (leB x6.cX x5.cX) (ς ζ) (acE (ix a0.aA v1) λx7=>ς (ltB 60 (x7.bk.length:Int)))) (acE (ix a0.aA v1) λx8=>ς (ltB 60 (x8.bk.length:Int))))) λ(v4:Bool)=>cond v4 (dn (ς η)) (ς (.next (WR (v1+1))))) (dn (iter (iv a0) FU 0))
def iH(a0:aM):Option Bool:=
 iter (jL a0) FU 0
instance tQ{a0:aM} :FC prog (iH a0=ς r) 193 [.agg (fG a0)] [.c (.d (.b r))]:=gG func193 ntmps193 (hl 0 3) (hb 27 56) (hl 2 4) (hb 79 2)
def py(a0:aC):Option Bool:=
 acE (dD a0.bz 2 3) λr1=>acE (cond r1 (acE (iA a0.bg) λr3=>ς (!r3)) (ς η)) λ(v2:Bool)=>cond v2 (ς η) (acE (pC a0.dO) λr4=>acE (cond r4 (acE (dD a0.bz 0 3) λr6=>cond r6 (acE (dD a0.bh 0 5) λr7=>cond r7 (acE (dD a0.ah 0 999999) λr8=>cond r8 (acE (dD a0.aY 0 999999) λr9=>cond r9 (acE (dD a0.bg 0 2147483646) λr10=>cond r10 (acE (dD a0.eU 0 3) λr11=>cond r11 (acE (iH a0.bW) λr12=>ς r12) (ς η)) (ς η)) (ς η)) (ς η)) (ς η)) (ς η)) (ς η)) λ(v5:Bool)=>ς v5)
instance SU{a0:aC} :FC prog (py a0=ς r) 109 [.agg (dF a0)] [.c (.d (.b r))]:=gG func109 ntmps109 (hb 6 11) (hb 15 2)
def iB(a0:cY):Option Bool:=
 acE (cond (leB 0 a0.aO) (acE (dD a0.cP 0 100000) λr2=>cond r2 (acE (dD a0.eH 0 a0.cP) λr3=>ς r3) (ς η)) (ς η)) λ(v1:Bool)=>ς v1
instance T0{a0:cY} :FC prog (iB a0=ς r) 105 [.agg (nE a0)] [.c (.d (.b r))]:=gG func105 ntmps105 (hb 6 2)
def pB(a0:cV):Option Bool:=
 acE (dD a0.fF 0 2) λr1=>acE (cond r1 (acE (dD a0.eT 0 4) λr3=>cond r3 (acE (dD a0.eU 0 3) λr4=>ς r4) (ς η)) (ς η)) λ(v2:Bool)=>ς v2
instance SV{a0:cV} :FC prog (pB a0=ς r) 196 [.agg (qw a0)] [.c (.d (.b r))]:=gG func196 ntmps196 (hb 6 2)
def je(a0:cY):Option Int:=
 acE (iB a0) λr1=>cond (!r1) (ς 0) (ς (WR (a0.cP-a0.eH)))
instance QP{a0:cY}{r:Int}:FC prog (je a0=ς r) 46 [.agg (nE a0)] [.c (.d (.i .i64 r))]:=gG func46 ntmps46
def lS(a0:aV):Int->Option (ci (Int) (Bool))
 |v1=>cond (ltB v1 (a0.aF.length:Int)) (acE (ix a0.aF v1) λx2=>acE (cond (!eqB x2.cX (WR ((WR (a0.bB-(a0.aF.length:Int)))+v1))) (ς ζ) (acE (ix a0.aF v1) λx4=>ς (ltB 60 (x4.bk.length:Int)))) λ(v3:Bool)=>cond v3 (dn (ς η)) (ς (.next (WR (v1+1))))) (dn (acE (dD a0.bB 1 100000) λr5=>acE (cond r5 (cond (leB (a0.aF.length:Int) 8) (ς (leB 1 (WR (a0.bB-(a0.aF.length:Int))))) (ς η)) (ς η)) λ(v6:Bool)=>ς v6))
def mq(a0:aV):Option Bool:=
 iter (lS a0) FU 0
instance ww{a0:aV} :FC prog (mq a0=ς r) 279 [.agg (fH a0)] [.c (.d (.b r))]:=gG func279 ntmps279 (hl 0 3) (hb 26 35) (hb 39 2)
def kR(a0:ae)(a1:bA):Option Bool:=
 acE (cond (ltB (a0.aT.length:Int) 200) (acE (dD a1.bj 0 (WR ((a0.ax.length:Int)-1))) λr2=>cond r2 (acE (dD a1.bh 0 (WR ((a0.d7.bp.length:Int)-1))) λr3=>ς r3) (ς η)) (ς η)) λ(v1:Bool)=>ς v1
instance XA{a0:ae}{a1:bA} :FC prog (kR a0 a1=ς r) 30 [.agg (g5 a0),.agg (eP a1)] [.c (.d (.b r))]:=gG func30 ntmps30 (hb 9 4)
def lk(a0:bw):Option Bool:=
 acE (dD a0.dt 0 1) λr1=>acE (cond r1 (acE (dD a0.gk 1 100000) λr3=>cond r3 (cond (leB (a0.bk.length:Int) 60) (acE (dD a0.i7 0 2147483646) λr4=>ς r4) (ς η)) (ς η)) (ς η)) λ(v2:Bool)=>ς v2
instance QL{a0:bw} :FC prog (lk a0=ς r) 78 [.agg (eg a0)] [.c (.d (.b r))]:=gG func78 ntmps78 (hb 6 2)
def H3(a0:Int)(a1:Int):Option Int:=
 acE (dD a1 1 1000000000000) λr1=>cond (!r1) (ς 0) (cond (!eqB a1 0) (cond (!eqB a1 0) (ς (acF (WR ((acF a0 a1)+a1)) a1)) ξ) ξ)
instance sMod_c{r:Int}:FC prog (H3 a0 a1=ς r) 259 [aI a0,aI a1] [.c (.d (.i .i64 r))]:=gG func259 ntmps259
def y9(a0:List Int):(Int×Int)->Option (ci (Int×Int) (Int))
 |(v1,v2)=>cond (ltB v2 (a0.length:Int)) (acE (ix a0 v2) λx6=>acE (H3 x6 2147483647) λr7=>ς (.next (acF (WR ((WR ((WR (v1*1000003))+r7))+13)) 2147483647,WR (v2+1)))) (ς (.done v1))
def QI(a0:List Int):Option Int:=
 acE (iter (y9 a0) FU (11,0)) λ(v5:Int)=>ς v5
instance sHash_c{a0:List Int}{r:Int}:FC prog (QI a0=ς r) 261 [aL (a0.map eI)] [.c (.d (.i .i64 r))]:=gG func261 ntmps261 (hm 0 3 4) (he 0 3 4)
def fa(a0:Int)(a1:List Int):Option Int:=
 cond (cW 8 ([a0]++a1).length) (cond (cW 8 (([a0]++a1)++[a0]).length) (acE (QI (([a0]++a1)++[a0])) λr1=>ς r1) ξ) ξ
instance KB{a1:List Int}{r:Int}:FC prog (fa a0 a1=ς r) 159 [aI a0,aL (a1.map eI)] [.c (.d (.i .i64 r))]:=gG func159 ntmps159
def nB(a0:Int)(a1:Int):Option Int:=
 acE (fa a0 [1,a1]) λr1=>acE (H3 r1 1000000) λr2=>ς r2
instance T5{r:Int}:FC prog (nB a0 a1=ς r) 260 [aI a0,aI a1] [.c (.d (.i .i64 r))]:=gG func260 ntmps260
def lq(a0:Int)(a1:Int)(a2:Int):Option Int:=
 acE (H3 a2 1000000) λr1=>acE (nB a0 a1) λr2=>acE (H3 (WR (r1-r2)) 1000000) λr3=>ς r3
instance QS{a2:Int}{r:Int}:FC prog (lq a0 a1 a2=ς r) 158 [aI a0,aI a1,aI a2] [.c (.d (.i .i64 r))]:=gG func158 ntmps158
def nC(a0:Int)(a1:Int)(a2:cy):Option Int:=
 acE (lq a0 a2.ez a2.f7) λr1=>acE (fa a0 [2,a2.ez,r1]) λr2=>cond (!eqB a2.i7 r2) (ς 1) (cond (leB r1 a1) (ς 2) (cond (ltB a1 (WR (r1-1000))) (ς 3) (ς 0)))
instance T7{a2:cy}{r:Int}:FC prog (nC a0 a1 a2=ς r) 82 [aI a0,aI a1,.agg (mE a2)] [.c (.d (.i .i64 r))]:=gG func82 ntmps82
def y8(a0:Int)(a1:List Int):(Int×List Int)->Option (ci (Int×List Int) (List Int))
 |(v1,v2)=>cond (ltB v1 (a1.length:Int)) (acE (ix a1 v1) λx6=>acE (fa a0 [v1]) λr7=>cond (cW 1 (v2++[IntKind.u8.wrap (acF (WR ((WR (x6))+(acF r7 256))) 256)]).length) (ς (.next (WR (v1+1),(v2++[IntKind.u8.wrap (acF (WR ((WR (x6))+(acF r7 256))) 256)])))) ξ) (ς (.done v2))
def CC(a0:Int)(a1:List Int):Option (List Int):=
 acE (iter (y8 a0 a1) FU (0,([]:List Int))) λ(v5:List Int)=>ς v5
instance sEncrypt_c{a1:List Int}{r:List Int}:FC prog (CC a0 a1=ς r) 350 [aI a0,aL (a1.map eU8)] [.c (.own 5 1 (r.map eU8) r.length)]:=gG func350 ntmps350 (hL 0 (λ(v:Int×List Int) sl ob nx=>⟨(5,.v (.c (.w 0 v.2.length)))::(6,tI v.1)::xS [0] sl,[(0,w5 v.2)]++ob,nx⟩)) (hB 0 (λ(v:List Int) sl ob nx=>⟨(5,.v (.c (.w 0 v.length)))::(6,.any)::xS [0] sl,[(0,w5 v)]++ob,nx⟩)) (hz 5)
def kf(a0:dq)(a1:Int):Option Int:=
 acE (fa 29 [a0.d4,a0.bZ,a1]) λr1=>ς r1
instance ST{a0:dq}{r:Int}:FC prog (kf a0 a1=ς r) 307 [.agg (oL a0),aI a1] [.c (.d (.i .i64 r))]:=gG func307 ntmps307
def lh(a0:aZ)(a1:Int):(Int×List Int)->Option (ci (Int×List Int) (List Int))
 |(v1,v2)=>cond (ltB v1 (a0.bp.length:Int)) (acE (ix a0.bp v1) λx6=>acE (cond (eqB x6.fF a1) (cond (cW 8 (v2++[v1]).length) (ς (v2++[v1])) ξ) (ς v2)) λ(v7:List Int)=>ς (.next (WR (v1+1),v7))) (ς (.done v2))
def sQ(a0:aZ)(a1:Int):Option (List Int):=
 acE (iter (lh a0 a1) FU (0,([]:List Int))) λ(v5:List Int)=>ς v5
instance Xb{a0:aZ}{r:List Int}:FC prog (sQ a0 a1=ς r) 389 [.agg (fT a0),aI a1] [.c (.own 3 1 (r.map eI) r.length)]:=gG func389 ntmps389 (hL 0 (λ(v:Int×List Int) sl ob nx=>⟨(5,.v (.c (.w 1 v.2.length)))::(6,tI v.1)::xS [1] sl,[(1,w3 v.2)]++ob,nx⟩)) (hB 0 (λ(v:List Int) sl ob nx=>⟨(5,.v (.c (.w 1 v.length)))::(6,.any)::xS [1] sl,[(1,w3 v)]++ob,nx⟩)) (hC 22 (λ(v:List Int) sl ob nx=>⟨(5,.v (.c (.w 1 v.length)))::xS [1] sl,[(1,w3 v)]++ob,nx⟩))
def i9(a0:aZ)(a2:Int):(Int×List Int)->Option (ci (Int×List Int) (List Int))
 |(v3,v4)=>acE (cond (ltB v3 (a0.bp.length:Int)) (acE (dD a2 1 4) λr9=>ς r9) (ς η)) λ(v8:Bool)=>cond v8 (cond (cW 8 (v4++[v3]).length) (ς (.next (WR (v3+1),(v4++[v3])))) ξ) (ς (.done v4))
def sS(a0:aZ)(a1:Int)(a2:Int):Option (List Int):=
 acE (sQ a0 a1) λr1=>acE (cond (eqB a2 1) (ς (ltB 0 (r1.length:Int))) (ς η)) λ(v2:Bool)=>cond v2 (ς r1) (acE (iter (i9 a0 a2) FU (0,([]:List Int))) λ(v7:List Int)=>ς v7)
instance Xg{a0:aZ}{a2:Int}{r:List Int}:FC prog (sS a0 a1 a2=ς r) 380 [.agg (fT a0),aI a1,aI a2] [.c (.own 3 1 (r.map eI) r.length)]:=gG func380 ntmps380 (hb 15 19) (hL 0 (λ(v:Int×List Int) sl ob nx=>⟨(8,.v (.c (.w 2 v.2.length)))::(9,tI v.1)::xS [2] sl,[(2,w3 v.2)]++ob,nx⟩)) (hB 0 (λ(v:List Int) sl ob nx=>⟨(8,.v (.c (.w 2 v.length)))::(9,.any)::xS [2] sl,[(2,w3 v)]++ob,nx⟩)) (hb 27 30)
def uV(a0:cV)(a1:aZ):Option (cV×List Int):=
 cond (ltB 0 a0.eU) (ς ({a0 with eU:=WR (a0.eU-1)},([]:List Int))) (acE (cond (ltB a0.eT 4) (ς (WR (a0.eT+1))) (ς 1)) λ(v1:Int)=>acE (sS a1 a0.fF v1) λr2=>ς ((⟨a0.fF,v1,3⟩:cV),r2))
instance YI{a0:cV}{a1:aZ}{r:cV×List Int}:FC prog (uV a0 a1=ς r) 352 [.agg (qw a0),.agg (fT a1)] [.agg (qM [] (mV r.1)),.c (.own 3 1 (r.2.map eI) r.2.length)]:=gG func352 ntmps352 (hC 20 (λ(v:Int) sl ob nx=>⟨sl,[(3,.var 87 (kM [] (mV {a0 with eT:=v})))]++ob,nx⟩)) (hz 9)
def mr(a0:aG):Option Bool:=
 acE (dD a0.bu 1 8) λr1=>acE (cond r1 (acE (dD a0.bh 0 5) λr3=>cond r3 (acE (dD a0.ah 0 999999) λr4=>cond r4 (acE (dD a0.aY 0 999999) λr5=>cond r5 (acE (dD a0.bZ 0 1000000000000) λr6=>ς r6) (ς η)) (ς η)) (ς η)) (ς η)) λ(v2:Bool)=>ς v2
instance SW{a0:aG} :FC prog (mr a0=ς r) 356 [.agg (dM a0)] [.c (.d (.b r))]:=gG func356 ntmps356 (hb 6 2)
def qH(a0:cY)(a1:Int):Option (cY×Bool):=
 acE (iB a0) λr1=>acE (cond (!r1) (ς ζ) (acE (dD a1 0 (WR (a0.cP-a0.eH))) λr3=>ς (!r3))) λ(v2:Bool)=>cond v2 (ς (a0,η)) (ς ({a0 with eH:=WR (a0.eH+a1)},ζ))
instance TY{a0:cY}{r:cY×Bool}:FC prog (qH a0 a1=ς r) 384 [.agg (nE a0),aI a1] [.agg (qM [] (z2 r.1)),.c (.d (.b r.2))]:=gG func384 ntmps384 (hb 10 19)
def y7(a0:Int)(a1:List Int):(Int×List Int)->Option (ci (Int×List Int) (List Int))
 |(v1,v2)=>cond (ltB v1 (a1.length:Int)) (acE (ix a1 v1) λx7=>acE (fa a0 [v1]) λr8=>acE (H3 (WR ((WR (x7))-(acF r8 256))) 256) λr9=>cond (cW 1 (v2++[IntKind.u8.wrap (r9)]).length) (ς (.next (WR (v1+1),(v2++[IntKind.u8.wrap (r9)])))) ξ) (ς (.done v2))
def CB(a0:Int)(a1:List Int):Option (List Int):=
 acE (iter (y7 a0 a1) FU (0,([]:List Int))) λ(v6:List Int)=>ς v6
instance sDecrypt_c{a1:List Int}{r:List Int}:FC prog (CB a0 a1=ς r) 390 [aI a0,aL (a1.map eU8)] [.c (.own 5 1 (r.map eU8) r.length)]:=gG func390 ntmps390 (hL 0 (λ(v:Int×List Int) sl ob nx=>⟨(5,.v (.c (.w 0 v.2.length)))::(6,tI v.1)::xS [0] sl,[(0,w5 v.2)]++ob,nx⟩)) (hB 0 (λ(v:List Int) sl ob nx=>⟨(5,.v (.c (.w 0 v.length)))::(6,.any)::xS [0] sl,[(0,w5 v)]++ob,nx⟩)) (hz 5)
def sV(a0:Int)(a1:Int)(a2:Int):Option Int:=
 acE (dD a2 0 999999) λr1=>cond (!r1) (ς (-1)) (acE (fa a0 [5,a1,a2]) λr2=>acE (H3 r2 1000) λr3=>ς (WR ((WR (1000000*r3))+a2)))
instance Xk{a2:Int}{r:Int}:FC prog (sV a0 a1 a2=ς r) 391 [aI a0,aI a1,aI a2] [.c (.d (.i .i64 r))]:=gG func391 ntmps391
def sW(a0:bE)(a1:Int)(a2:Bool):Option bE:=
 acE (mJ a0) λr1=>acE (cond (!r1) (ς ζ) (acE (dD a1 0 (WR (a0.fy-1))) λr3=>ς (!r3))) λ(v2:Bool)=>cond v2 (ς a0) (acE (cond a2 (cond (leB 0 a1) (ς (bOr .i64 a0.fj (mD .i64 1 a1))) ξ) (cond (leB 0 a1) (ς (wW .i64 a0.fj (mD .i64 1 a1))) ξ)) λ(v4:Int)=>ς (⟨a0.fy,v4⟩:bE))
instance Xl{a0:bE}{a2:Bool}{r:bE}:FC prog (sW a0 a1 a2=ς r) 251 [.agg (jg a0),aI a1,aB a2] [.agg (qM [] (kB r))]:=gG func251 ntmps251 (hb 11 18) (hC 21 (λ(v:Int) sl ob nx=>⟨sl,[(2,.var 32 (kM [] (kB (⟨a0.fy,v⟩:bE))))]++ob,nx⟩)) (hz 5) (hz 6)
def rh(a0:bE)(a1:Int):Option Bool:=
 acE (mJ a0) λr1=>acE (cond r1 (acE (dD a1 0 (WR (a0.fy-1))) λr3=>cond r3 (cond (leB 0 a1) (ς (eqB (AC .i64 (Eb .i64 a0.fj a1) 1) 1)) ξ) (ς η)) (ς η)) λ(v2:Bool)=>ς v2
instance Yz{a0:bE} :FC prog (rh a0 a1=ς r) 252 [.agg (jg a0),aI a1] [.c (.d (.b r))]:=gG func252 ntmps252 (hb 7 4)
def jp(a0:Int)(a1:Int):Option Int:=
 acE (fa 17 [a0,a1]) λr1=>ς (acF (WR (r1*r1)) 2147483647)
instance No{r:Int}:FC prog (jp a0 a1=ς r) 322 [aI a0,aI a1] [.c (.d (.i .i64 r))]:=gG func322 ntmps322
def mK(a0:bE)(a1:Int):(Int×Int)->Option (ci (Int×Int) (Int))
 |(v1,v2)=>acE (cond (ltB v2 a0.fy) (ς (ltB v2 6)) (ς η)) λ(v10:Bool)=>cond v10 (acE (rh a0 v2) λr11=>acE (cond r11 (cond (ltB v1 0) (ς ζ) (acE (jp v2 a1) λr13=>acE (jp v1 a1) λr14=>ς (ltB r14 r13))) (ς η)) λ(v12:Bool)=>acE (cond v12 (ς v2) (ς v1)) λ(v15:Int)=>ς (.next (v15,WR (v2+1)))) (ς (.done v1))
def nz(a0:bE)(a1:Int):Option Int:=
 acE (iter (mK a0 a1) FU (-1,0)) λ(v9:Int)=>ς v9
instance T4{a0:bE}{r:Int}:FC prog (nz a0 a1=ς r) 253 [.agg (jg a0),aI a1] [.c (.d (.i .i64 r))]:=gG func253 ntmps253 (hm 0 5 6) (he 0 5 6) (hb 11 14) (hb 20 32) (hi 32 5)
end Go.AM
