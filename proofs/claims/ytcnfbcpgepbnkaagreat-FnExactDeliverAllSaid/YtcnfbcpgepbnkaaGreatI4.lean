/- A part. -/
import Derived.Test.YtcnfbcpgepbnkaaGreatI0
import Derived.Test.YtcnfbcpgepbnkaaGreatI1
import Derived.Test.YtcnfbcpgepbnkaaGreatI2
set_option linter.unusedVariables false
open Option renaming some->ς,none->ξ
open Bool renaming true->ζ,false->η
open True renaming intro->θ
open Option renaming bind->abX
namespace Go.AM
open Go.Proofs
open Tryz
attribute [local irreducible] AWN NS AWO AWR AWC DR DZ cp ec iter
set_option maxRecDepth 100000
set_option maxHeartbeats 40000000
variable{r:Bool}
def g6(a0:aj):Int->Option (bN (Int) (Bool))
 |v3=>cond (ltB v3 (a0.am.length:Int)) (abX (ix a0.am v3) λx4=>abX (cond (ltB 60 (x4.bk.length:Int)) (ς ζ) (abX (bM x4.cP (WR (a0.bK+1)) (WR ((WR (a0.bK+8))-1))) λr6=>ς (!r6))) λ(v5:Bool)=>cond v5 (dn (ς η)) (abX (cond (ltB 0 v3) (abX (ix a0.am (WR (v3-1))) λx8=>ς (leB x4.cP x8.cP)) (ς η)) λ(v7:Bool)=>cond v7 (dn (ς η)) (ς (.next (WR (v3+1)))))) (dn (ς ζ))
def it(a0:aj):Option Bool:=
 abX (cond (!eqB a0.bK (WR ((a0.aD.length:Int)+1))) (ς ζ) (cond (ltB 24 (a0.aD.length:Int)) (ς ζ) (abX (sB a0.aD) λr2=>cond (!r2) (ς ζ) (ς (ltB 8 (a0.am.length:Int)))))) λ(v1:Bool)=>cond v1 (ς η) (iter (g6 a0) FU 0)
instance Mo{a0:aj} :FC prog (it a0=ς r) 235 [.agg (dw a0)] [.c (.d (.b r))]:=gG func235 ntmps235 (hb 12 29) (hl 0 33) (hb 42 54) (hb 57 68)
def mO(a0:av):Option Bool:=
 abX (mT a0.dJ) λr1=>abX (cond (!r1) (ς ζ) (abX (bM a0.bV 0 3) λr3=>cond (!r3) (ς ζ) (abX (bM a0.bJ 0 5) λr4=>ς (!r4)))) λ(v2:Bool)=>cond v2 (ς η) (abX (bM a0.ak 0 999999) λr5=>abX (cond (!r5) (ς ζ) (abX (bM a0.aU 0 999999) λr7=>cond (!r7) (ς ζ) (abX (bM a0.bj 0 2147483646) λr8=>ς (!r8)))) λ(v6:Bool)=>cond v6 (ς η) (abX (cond (eqB a0.bV 2) (abX (eY a0.bj) λr10=>ς (!r10)) (cond (eqB a0.bV 3) (abX (eY a0.bj) λr11=>ς (!r11)) (ς η))) λ(v9:Bool)=>cond v9 (ς η) (abX (bM a0.mH 0 3) λr12=>abX (cond r12 (abX (it a0.bY) λr14=>ς r14) (ς η)) λ(v13:Bool)=>ς v13)))
instance Qh{a0:av} :FC prog (mO a0=ς r) 159 [.agg (aZ a0)] [.c (.d (.b r))]:=gG func159 ntmps159 (hb 7 18) (hb 23 34) (hb 38 48) (hb 52 2)
def fk(a0:bh):Int->Option (bN (Int) (Bool))
 |v5=>cond (ltB v5 (a0.aV.length:Int)) (abX (ix a0.aV v5) λx6=>abX (bM x6 0 3) λr7=>cond (!r7) (dn (ς η)) (ς (.next (WR (v5+1))))) (dn (abX (ni a0.aV) λr8=>ς r8))
def gx(a0:bh):Option Bool:=
 abX (bM a0.ij 1 1000) λr1=>abX (cond (!r1) (ς ζ) (abX (bM a0.ic 1 4) λr3=>cond (!r3) (ς ζ) (abX (bM a0.ig 1 100000) λr4=>ς (!r4)))) λ(v2:Bool)=>cond v2 (ς η) (iter (fk a0) FU 0)
instance HU{a0:bh} :FC prog (gx a0=ς r) 237 [.agg (eB a0)] [.c (.d (.b r))]:=gG func237 ntmps237 (hb 9 20) (hl 0 24)
def eO(a0:ag):Int->Option (bN (Int) (Bool))
 |v23=>cond (ltB v23 (a0.aY.aJ.length:Int)) (abX (ix a0.aY.aJ v23) λx24=>abX (ix a0.aX (WR (x24.cP-1))) λx25=>abX (vQ x24.bk x25.bk) λr26=>cond (!r26) (dn (ς η)) (ς (.next (WR (v23+1))))) (dn (abX (mU a0) λr27=>abX (lO a0.dq) λr28=>ς (leB r27 r28)))
def lN(a0:ag):Option Bool:=
 abX (ef a0.bF) λr1=>abX (cond (!r1) (ς ζ) (abX (gx a0.gu) λr3=>cond (!r3) (ς ζ) (abX (mR a0.oy) λr4=>cond (!r4) (ς ζ) (abX (mS a0.aY) λr5=>cond (!r5) (ς ζ) (abX (gP a0.dq) λr6=>ς (!r6)))))) λ(v2:Bool)=>cond v2 (ς η) (abX (cond (!eqB a0.bV 0) (ς (!eqB a0.bV 1)) (ς η)) λ(v7:Bool)=>cond v7 (ς η) (abX (cond (eqB a0.bV 1) (abX (eY a0.bj) λr9=>cond (!r9) (ς ζ) (cond (ltB 0 a0.bw) (abX (eY a0.am.fg) λr10=>ς (!r10)) (ς η))) (cond (ltB 0 a0.bw) (abX (eY a0.am.fg) λr11=>ς (!r11)) (ς η))) λ(v8:Bool)=>cond v8 (ς η) (abX (bM a0.bw 0 999999) λr12=>abX (cond (!r12) (ς ζ) (abX (bM a0.ak 0 999999) λr14=>cond (!r14) (ς ζ) (abX (bM a0.aU 0 999999) λr15=>cond (!r15) (ς ζ) (abX (bM a0.bj 0 2147483646) λr16=>ς (!r16))))) λ(v13:Bool)=>cond v13 (ς η) (abX (bM a0.bJ 0 5) λr17=>abX (cond (!r17) (ς ζ) (abX (bM a0.kY 0 5) λr19=>cond (!r19) (ς ζ) (abX (bM a0.kf 0 3) λr20=>ς (!r20)))) λ(v18:Bool)=>cond v18 (ς η) (abX (cond (ltB 24 (a0.aX.length:Int)) (ς ζ) (abX (sB a0.aX) λr22=>cond (!r22) (ς ζ) (ς (ltB (WR ((a0.aX.length:Int)+1)) a0.aY.bK)))) λ(v21:Bool)=>cond v21 (ς η) (iter (eO a0) FU 0))))))
instance Ox{a0:ag} :FC prog (lN a0=ς r) 160 [.agg (aB a0)] [.c (.d (.b r))]:=gG func160 ntmps160 (hb 9 32) (hb 36 40) (hb 44 61) (hb 66 83) (hb 88 99) (hb 104 119) (hl 0 124)
def qW(a0:Int)(a1:ar):Option Int:=
 abX (mW) λr1=>abX (px a0 r1) λr2=>abX (ej r2 [23,a1.d9,a1.bJ,a1.ak,a1.aU,a1.bW]) λr3=>ς r3
instance Xt{a0:Int}{a1:ar}{r:Int}:FC prog (qW a0 a1=ς r) 318 [aI a0,.agg (cb a1)] [.c (.d (.i .i64 r))]:=gG func318 ntmps318
def my(a0:Int)(a1:ar):Option ar:=
 abX (qW a0 a1) λr1=>ς {a1 with mu:=r1}
instance yv{a0:Int}{a1:ar}{r:ar}:FC prog (my a0 a1=ς r) 255 [aI a0,.agg (cb a1)] [.agg (qM [] (fH r))]:=gG func255 ntmps255
def lC(a0:ag)(a1:Int):Option ar:=
 abX (my a0.bj (⟨a1,a0.bJ,a0.ak,a0.aU,0,cF,0⟩:ar)) λr1=>ς r1
instance vk{a0:ag}{a1:Int}{r:ar}:FC prog (lC a0 a1=ς r) 311 [.agg (aB a0),aI a1] [.agg (qM [] (fH r))]:=gG func311 ntmps311
def gQ(a0:Int)(a1:ar):Option Bool:=
 abX (qW a0 a1) λr1=>ς (eqB a1.mu r1)
instance lP{a0:Int}{a1:ar} :FC prog (gQ a0 a1=ς r) 257 [aI a0,.agg (cb a1)] [.c (.d (.b r))]:=gG func257 ntmps257
def jN(a1:ab)(r1:aj):Int->Option (bN (Int) (Int))
 |v6=>abX (cond (ltB v6 (r1.am.length:Int)) (abX (ix r1.am v6) λx11=>ς (ltB x11.cP a1.cP)) (ς η)) λ(v10:Bool)=>cond v10 (ς (.next (WR (v6+1)))) (ς (.done v6))
def sy:aj->Option (bN (aj) (aj))
 |v17=>abX (cond (ltB 0 (v17.am.length:Int)) (abX (ix v17.am 0) λx26=>cond (eqB x26.cP v17.bK) (ς (ltB (v17.aD.length:Int) 24)) (ς η)) (ς η)) λ(v25:Bool)=>cond v25 (abX (ix v17.am 0) λx27=>cond (dH 24 (v17.aD++[(⟨x27.bk⟩:aC)]).length) (cond (fD v17.am 1 v17.am.length) (ς (.next (⟨WR (v17.bK+1),v17.am.drop ((1:Int)).toNat,(v17.aD++[(⟨x27.bk⟩:aC)])⟩:aj))) ξ) ξ) (ς (.done v17))
def mV(a0:aj)(a1:ab):Option aj:=
 abX (jD a0) λr1=>abX (it a0) λr2=>abX (cond (!r2) (ς ζ) (cond (ltB 60 (a1.bk.length:Int)) (ς ζ) (abX (bM a1.cP a0.bK (WR ((WR (a0.bK+8))-1))) λr4=>cond (!r4) (ς ζ) (abX (yY a0 a1.cP) λr5=>cond r5 (ς ζ) (ς (leB 24 (a0.aD.length:Int))))))) λ(v3:Bool)=>cond v3 (ς r1) (abX (iter (jN a1 r1) FU 0) λ(v9:Int)=>cond (dH 32 (r1.am++[bg]).length) (cond (fD (r1.am++[bg]) (WR (v9+1)) (r1.am++[bg]).length) (cond (fD (r1.am++[bg]) v9 (r1.am++[bg]).length) (abX (fC a1.bk) λr12=>abX (ix (cpD (r1.am++[bg]) (WR (v9+1)).toNat ((r1.am++[bg]).drop (v9).toNat)) v9) λx13=>abX (iter (sy) FU {r1 with am:=((cpD (r1.am++[bg]) (WR (v9+1)).toNat ((r1.am++[bg]).drop (v9).toNat)).set (v9).toNat (⟨a1.cP,r12⟩:ab))}) λ(v24:aj)=>cond (leB 24 (v24.aD.length:Int)) (ς {v24 with am:=[]}) (ς v24)) ξ) ξ) ξ)
instance tO{a0:aj}{a1:ab}{r:aj}:FC prog (mV a0 a1=ς r) 254 [.agg (dw a0),.agg (ah a1)] [.agg (qM [.d,.o] (bX r))]:=gG func254 ntmps254 (hb 12 41) (hl 0 6) (he 0 6 6) (hb 48 58) (hL 2 (λ(v:aj) sl ob nx=>⟨(65,.any)::(68,.any)::(73,.any)::(78,.any)::xS [4,3] sl,oM [.t,.w 4] 5 127 (bX v)++fO [3] ob,nx⟩)) (hB 2 (λ(v:aj) sl ob nx=>⟨(65,.any)::(68,.any)::(73,.any)::(78,.any)::xS [4,3] sl,oM [.t,.w 4] 5 127 (bX v)++fO [3] ob,nx⟩)) (hb 91 106) (hz 11) (hz 9) (hz 8)
def sD(a0:av):Option ar:=
 abX (my a0.bj (⟨5,a0.bJ,a0.ak,a0.aU,0,cF,0⟩:ar)) λr1=>ς r1
instance FE{a0:av}{r:ar}:FC prog (sD a0=ς r) 186 [.agg (aZ a0)] [.agg (qM [] (fH r))]:=gG func186 ntmps186
end Go.AM
