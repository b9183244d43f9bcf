/- A part. -/
import Derived.Test.YtcnfbcpgepbnkaaGreatI0
import Derived.Test.YtcnfbcpgepbnkaaGreatI1
import Derived.Test.YtcnfbcpgepbnkaaGreatI2
set_option linter.unusedVariables false
open Option renaming some->ς,none->ξ
open Bool renaming true->ζ,false->η
open True renaming intro->θ
open Option renaming bind->abX
namespace Go.AM
open Go.Proofs
open Tryz
attribute [local irreducible] AWN NS AWO AWR AWC DR DZ cp ec iter
set_option maxRecDepth 100000
set_option maxHeartbeats 40000000
variable{a0 a1:Int}{r:Bool}
def mQ(a0:bz)(v2:Int)(x3:cA):Int->Option (bN (Int) (bN (Int) (Bool)))
 |v7=>cond (ltB v7 (x3.bI.length:Int)) (abX (ix x3.bI v7) λx8=>abX (cond (eqB x8 v2) (ς ζ) (abX (qj a0 x8) λr10=>cond (!r10) (ς ζ) (abX (s9 a0 x8 v2) λr11=>ς (!r11)))) λ(v9:Bool)=>cond v9 (dn (dn (ς η))) (ς (.next (WR (v7+1))))) (dn (ς (.next (WR (v2+1)))))
def mP(a0:bz):Int->Option (bN (Int) (Bool))
 |v2=>cond (ltB v2 (a0.bD.length:Int)) (abX (ix a0.bD v2) λx3=>abX (bM x3.mG 0 2) λr4=>abX (cond (!r4) (ς ζ) (abX (ni x3.bI) λr6=>ς (!r6))) λ(v5:Bool)=>cond v5 (dn (ς η)) (iter (mQ a0 v2 x3) FU 0)) (dn (ς ζ))
def sx(a0:bz):Option Bool:=
 abX (bM (a0.bD.length:Int) 1 6) λr1=>cond (!r1) (ς η) (iter (mP a0) FU 0)
instance Wu{a0:bz} :FC prog (sx a0=ς r) 85 [.agg (gm a0)] [.c (.d (.b r))]:=gG func85 ntmps85 (hl 0 15) (hb 24 29) (hl 2 33) (hb 40 52)
def iL(a0:an):Int->Option (bN (Int) (Bool))
 |v5=>cond (ltB v5 (a0.aG.length:Int)) (abX (ix a0.aG v5) λx6=>abX (cond (ltB x6.bi 0) (ς ζ) (abX (bM x6.dX 1 100000) λr8=>ς (!r8))) λ(v7:Bool)=>cond v7 (dn (ς η)) (abX (cond (ltB 0 v5) (abX (ix a0.aG (WR (v5-1))) λx10=>ς (leB x6.bi x10.bi)) (ς η)) λ(v9:Bool)=>cond v9 (dn (ς η)) (ς (.next (WR (v5+1)))))) (dn (abX (mY a0) λr11=>ς (eqB (WR ((WR (a0.er+a0.pv))+r11)) a0.jf)))
def jk(a0:an):Option Bool:=
 abX (bM a0.jf 0 100000) λr1=>abX (cond (!r1) (ς ζ) (abX (bM a0.er 0 a0.jf) λr3=>cond (!r3) (ς ζ) (abX (bM a0.pv 0 a0.jf) λr4=>ς (!r4)))) λ(v2:Bool)=>cond v2 (ς η) (cond (ltB 8 (a0.aG.length:Int)) (ς η) (iter (iL a0) FU 0))
instance Ov{a0:an} :FC prog (jk a0=ς r) 161 [.agg (bu a0)] [.c (.d (.b r))]:=gG func161 ntmps161 (hb 9 24) (hl 0 32) (hb 40 45) (hb 48 59)
def gz(a0:an)(a1:cU):Option Bool:=
 abX (jk a0) λr1=>abX (cond r1 (abX (gP a1) λr3=>cond r3 (abX (qg a0 a1.bi) λr4=>ς (eqB r4 a1.dg)) (ς η)) (ς η)) λ(v2:Bool)=>ς v2
instance HV{a0:an}{a1:cU} :FC prog (gz a0 a1=ς r) 162 [.agg (bu a0),.agg (mJ a1)] [.c (.d (.b r))]:=gG func162 ntmps162 (hb 7 4)
def oZ(a0:cU)(a1:Int):Option (cU×Bool):=
 abX (gP a0) λr1=>abX (cond (!r1) (ς ζ) (abX (bM a1 0 (WR (a0.dg-a0.gO))) λr3=>ς (!r3))) λ(v2:Bool)=>cond v2 (ς (a0,η)) (ς ({a0 with gO:=WR (a0.gO+a1)},ζ))
instance Cf{a0:cU}{r:cU×Bool}:FC prog (oZ a0 a1=ς r) 312 [.agg (mJ a0),aI a1] [.agg (qM [] (HI r.1)),.c (.d (.b r.2))]:=gG func312 ntmps312 (hb 9 18)
def cO(a0:av)(a1:List ar):Option aK:=
 abX (mz a0) λr1=>abX (eD a1) λr2=>ς (⟨r1,r2⟩:aK)
instance pL{a0:av}{a1:List ar}{r:aK}:FC prog (cO a0 a1=ς r) 184 [.agg (aZ a0),aL (a1.map cb)] [.agg (qM [.o,.o,.o] (cd r))]:=gG func184 ntmps184
def tN(a0:Int)(a1:Int):Option Int:=
 abX (ta a1) λr1=>abX (px a0 r1) λr2=>ς r2
instance BZ{r:Int}:FC prog (tN a0 a1=ς r) 316 [aI a0,aI a1] [.c (.d (.i .i64 r))]:=gG func316 ntmps316
def wc(a0:Int)(a1:Int)(a2:Int)(a3:List Int):Option Int:=
 abX (qd a3) λr1=>cond (dH 8 ([a1,a2]++r1).length) (abX (ej a0 ([a1,a2]++r1)) λr2=>ς r2) ξ
instance Wz{a2:Int}{a3:List Int}{r:Int}:FC prog (wc a0 a1 a2 a3=ς r) 365 [aI a0,aI a1,aI a2,aL (a3.map eU8)] [.c (.d (.i .i64 r))]:=gG func365 ntmps365
def uq(a0:Int)(a1:aS):Option Bool:=
 abX (wc a0 a1.cH a1.fj a1.bk) λr1=>ς (eqB a1.mu r1)
instance Xu{a1:aS} :FC prog (uq a0 a1=ς r) 348 [aI a0,.agg (cZ a1)] [.c (.d (.b r))]:=gG func348 ntmps348
def qi(a0:Int)(a1:aT):Option Bool:=
 abX (lM a1.a9) λr1=>abX (cond r1 (cond (eqB a1.a9.cH 1) (abX (tN a0 a1.aU) λr3=>abX (uq r3 a1.a9) λr4=>ς r4) (ς η)) (ς η)) λ(v2:Bool)=>ς v2
instance vT{a1:aT} :FC prog (qi a0 a1=ς r) 314 [aI a0,.agg (db a1)] [.c (.d (.b r))]:=gG func314 ntmps314 (hb 8 4)
def vP(a0:Int)(r1:List Int):(Int×List Int)->Option (bN (Int×List Int) (List Int))
 |(v2,v3)=>cond (ltB v2 (r1.length:Int)) (abX (ix v3 v2) λx8=>abX (ej a0 [v2]) λr9=>abX (ix v3 v2) λx10=>ς (.next (WR (v2+1),(v3.set (v2).toNat (IntKind.u8.wrap (x8-(IntKind.u8.wrap (Int.tmod r9 256)))))))) (ς (.done v3))
def Ab(a0:Int)(a1:List Int):Option (List Int):=
 abX (fC a1) λr1=>abX (iter (vP a0 r1) FU (0,r1)) λ(v7:List Int)=>ς v7
instance iDecrypt_c{a1:List Int}{r:List Int}:FC prog (Ab a0 a1=ς r) 349 [aI a0,aL (a1.map eU8)] [.c (.own 5 1 (r.map eU8) r.length)]:=gG func349 ntmps349 (hL 0 (λ(v:Int×List Int) sl ob nx=>⟨(5,.v (.c (.w 0 v.2.length)))::(11,tI v.1)::xS [0] sl,[(0,w5 v.2)]++ob,nx⟩)) (hB 0 (λ(v:List Int) sl ob nx=>⟨(5,.v (.c (.w 0 v.length)))::(11,.any)::xS [0] sl,[(0,w5 v)]++ob,nx⟩)) (hz 5)
def uv(a0:Int)(a1:aS):Option (List Int):=
 abX (qU a0 (WR ((WR (2*a1.fj))+a1.cH))) λr1=>abX (Ab r1 a1.bk) λr2=>ς r2
instance wb{a1:aS}{r:List Int}:FC prog (uv a0 a1=ς r) 315 [aI a0,.agg (cZ a1)] [.c (.own 5 1 (r.map eU8) r.length)]:=gG func315 ntmps315
def qV(a0:Int)(a1:Int)(a2:Int)(a3:aT):Option (ab×Bool):=
 abX (cond (!eqB a3.ak a1) (ς ζ) (cond (!eqB a3.aU a2) (ς ζ) (abX (qi a0 a3) λr2=>ς (!r2)))) λ(v1:Bool)=>cond v1 (ς (bg,η)) (abX (tN a0 a2) λr3=>abX (uv r3 a3.a9) λr4=>ς ((⟨a3.a9.fj,r4⟩:ab),ζ))
theorem yu{a2:Int}{a3:aT}{r:ab×Bool}(H:qV a0 a1 a2 a3=ς r)(hflag:r.2=ζ):Fn prog 253 [aI a0,aI a1,aI a2,.agg (db a3)] [.agg (qM [.o] (dR r.1)),.c (.d (.b r.2))]:=by
 refine fI func253 ntmps253 ?_
 refine aa H λv1 Hj H=>jR ⟨[(0,tI a0),(2,tI a2),(7,tP 0),(8,tP 1),(26,tB v1)],[(0,.var 150 (kM [.f] (jy a3))),(1,.var 249 (kM [.z] (dR bg)))],2⟩ ?_ ?_
 .refine gC Hj ?_ ?_<;>intro H
  .exact ai H
  refine gC H ?_ ?_<;>intro H
  .exact ai H
  refine aa H λr2 q2 H=>nG (ca (hF:=vT.h q2)) ?_
  exact ai H
 refine cC H ?_ ?_<;>intro H
 .cases H
  cases hflag
 refine dI ?_
 refine aa H λr3 q3 H=>dA (ca (hF:=BZ.h q3)) ?_
 refine aa H λr4 q4 H=>dA (ca (hF:=wb.h q4)) ?_
 refine wI ?_
 exact ao H
theorem yt{a2:Int}{a3:aT}{r:ab×Bool}(H:qV a0 a1 a2 a3=ς r)(hflag:r.2=η):Fn prog 253 [aI a0,aI a1,aI a2,.agg (db a3)] [.agg (qM [.z] (dR r.1)),.c (.d (.b r.2))]:=by
 refine fI func253 ntmps253 ?_
 refine aa H λv1 Hj H=>jR ⟨[(0,tI a0),(2,tI a2),(7,tP 0),(8,tP 1),(26,tB v1)],[(0,.var 150 (kM [.f] (jy a3))),(1,.var 249 (kM [.z] (dR bg)))],2⟩ ?_ ?_
 .refine gC Hj ?_ ?_<;>intro H
  .exact ai H
  refine gC H ?_ ?_<;>intro H
  .exact ai H
  refine aa H λr2 q2 H=>nG (ca (hF:=vT.h q2)) ?_
  exact ai H
 refine cC H ?_ ?_<;>intro H
 .exact ao H
 refine dI ?_
 refine aa H λr3 q3 H=>dA (ca (hF:=BZ.h q3)) ?_
 refine aa H λr4 q4 H=>dA (ca (hF:=wb.h q4)) ?_
 refine wI ?_
 cases H
 cases hflag
def iv(a0:av)(a1:ar):Option aK:=
 abX (le a0.dJ a1.cy) λr1=>cond (!eqB r1.2.Code 0) (abX (cO a0 []) λr2=>ς r2) (abX (cO {a0 with dJ:=r1.1,ak:=a1.ak,bj:=r1.2.ue} [(⟨3,a0.bJ,a1.ak,0,r1.2.A2,cF,0⟩:ar)]) λr3=>ς r3)
instance Mq{a0:av}{a1:ar}{r:aK}:FC prog (iv a0 a1=ς r) 256 [.agg (aZ a0),.agg (cb a1)] [.agg (qM [.o,.o,.o] (cd r))]:=gG func256 ntmps256
end Go.AM
