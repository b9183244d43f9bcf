/- A part. -/
import Derived.Test.YtcnfbcpgepbnkaaGreatS0
import Derived.Test.YtcnfbcpgepbnkaaGreatS1
import Derived.Test.YtcnfbcpgepbnkaaGreatS2
set_option linter.unusedVariables false
open Option renaming some->ς,none->ξ
open Bool renaming true->ζ,false->η
open True renaming intro->θ
open Option renaming bind->abX
namespace Go.AM
open Go.Proofs
open Tryz
attribute [local irreducible] AWN NS AWO AWR AWC DR DZ cp ec iter
set_option maxRecDepth 100000
set_option maxHeartbeats 40000000
def ov(a0:ag):Option ag:=
 abX (AO a0.gu) λr1=>abX (rW a0.aX) λr2=>abX (rY a0.aY) λr3=>ς {a0 with gu:=r1,aX:=r2,aY:=r3}
instance sl30Copy_c{a0:ag}{r:ag}:FC prog (ov a0=ς r) 64 [.agg (aB a0)] [.agg (qM [.o,.o,.o] (gp r))]:=gG func64 ntmps64
def nY(a0:bz)(v1:Int)(x2:cA):Int->Option (bN (Int) (bN (Int) (Bool)))
 |v4=>cond (ltB v4 (x2.bI.length:Int)) (abX (ix x2.bI v4) λx5=>abX (cX x5 0 (WR ((a0.bD.length:Int)-1))) λr6=>abX (cond (!r6) (ς ζ) (cond (eqB x5 v1) (ς ζ) (cond (ltB 0 v4) (abX (ix x2.bI (WR (v4-1))) λx8=>cond (leB x5 x8) (ς ζ) (abX (ix a0.bD x5) λx9=>abX (Df x9.bI v1) λr10=>ς (!r10))) (abX (ix a0.bD x5) λx11=>abX (Df x11.bI v1) λr12=>ς (!r12))))) λ(v7:Bool)=>cond v7 (dn (dn (ς η))) (ς (.next (WR (v4+1))))) (dn (ς (.next (WR (v1+1)))))
def nX(a0:bz):Int->Option (bN (Int) (Bool))
 |v1=>cond (ltB v1 (a0.bD.length:Int)) (abX (ix a0.bD v1) λx2=>abX (cX x2.mG 0 2) λr3=>cond (!r3) (dn (ς η)) (iter (nY a0 v1 x2) FU 0)) (dn (abX (cX (a0.bD.length:Int) 1 6) λr13=>ς r13))
def sO(a0:bz):Option Bool:=
 iter (nX a0) FU 0
instance WM{a0:bz}{r:Bool}:FC prog (sO a0=ς r) 67 [.agg (gm a0)] [.c (.d (.b r))]:=gG func67 ntmps67 (hl 0 3) (hl 2 5) (hb 42 71)
def jG(a0:ag):Int->Option (bN (Int) (Bool))
 |v5=>cond (ltB v5 (a0.aY.aJ.length:Int)) (abX (ix a0.aY.aJ v5) λx6=>abX (ix a0.aX (WR (x6.cP-1))) λx7=>abX (wV x6.bk x7.bk) λr8=>cond (!r8) (dn (ς η)) (ς (.next (WR (v5+1))))) (dn (abX (qF a0.aY.aJ) λr9=>abX (me a0.dq) λr10=>ς (leB r9 r10)))
def pp(a0:ag):Int->Option (bN (Int) (Bool))
 |v1=>cond (ltB v1 (a0.aX.length:Int)) (abX (ix a0.aX v1) λx2=>cond (ltB 60 (x2.bk.length:Int)) (dn (ς η)) (ς (.next (WR (v1+1))))) (dn (abX (cond (ltB 24 (a0.aX.length:Int)) (ς ζ) (abX (oc a0.aY) λr4=>cond (!r4) (ς ζ) (ς (ltB (WR ((a0.aX.length:Int)+1)) a0.aY.bK)))) λ(v3:Bool)=>cond v3 (ς η) (iter (jG a0) FU 0)))
def vb(a0:ag):Option Bool:=
 iter (pp a0) FU 0
instance YL{a0:ag}{r:Bool}:FC prog (vb a0=ς r) 204 [.agg (aB a0)] [.c (.d (.b r))]:=gG func204 ntmps204 (hl 0 3) (hb 25 40) (hl 2 4)
def mc(a0:ag):Option Bool:=
 abX (cond (eqB a0.bV 1) (abX (fT a0.bj) λr2=>cond (!r2) (ς ζ) (cond (ltB 0 a0.bw) (abX (fT a0.am.fg) λr3=>cond (!r3) (ς ζ) (abX (cX a0.bV 0 1) λr4=>ς (!r4))) (abX (cX a0.bV 0 1) λr5=>ς (!r5)))) (cond (ltB 0 a0.bw) (abX (fT a0.am.fg) λr6=>cond (!r6) (ς ζ) (abX (cX a0.bV 0 1) λr7=>ς (!r7))) (abX (cX a0.bV 0 1) λr8=>ς (!r8)))) λ(v1:Bool)=>cond v1 (ς η) (abX (eg a0.bF) λr9=>abX (cond (!r9) (ς ζ) (abX (gM a0.gu) λr11=>cond (!r11) (ς ζ) (abX (nZ a0.oy) λr12=>cond (!r12) (ς ζ) (abX (gY a0.dq) λr13=>cond (!r13) (ς ζ) (abX (vb a0) λr14=>ς (!r14)))))) λ(v10:Bool)=>cond v10 (ς η) (abX (cX a0.bw 0 999999) λr15=>abX (cond (!r15) (ς ζ) (abX (cX a0.ak 0 999999) λr17=>cond (!r17) (ς ζ) (abX (cX a0.aU 0 999999) λr18=>cond (!r18) (ς ζ) (abX (cX a0.bj 0 2147483646) λr19=>ς (!r19))))) λ(v16:Bool)=>cond v16 (ς η) (abX (cX a0.bJ 0 5) λr20=>abX (cond r20 (abX (cX a0.kY 0 5) λr22=>cond r22 (abX (cX a0.kf 0 3) λr23=>ς r23) (ς η)) (ς η)) λ(v21:Bool)=>ς v21)))
instance Px{a0:ag}{r:Bool}:FC prog (mc a0=ς r) 127 [.agg (aB a0)] [.c (.d (.b r))]:=gG func127 ntmps127 (hb 6 29) (hb 34 56) (hb 61 78) (hb 82 2)
def ow(a0:ag):Option aP:=
 abX (ov a0) λr1=>ς (⟨r1,([]:List ar)⟩:aP)
instance sl30None_c{a0:ag}{r:aP}:FC prog (ow a0=ς r) 209 [.agg (aB a0)] [.agg (qM [.o,.o,.o,.o] (bP r))]:=gG func209 ntmps209
def Nq(a0:Int)(a1:aS):Option Int:=
 abX (qr a1.bk) λr1=>cond (dH 8 ([a1.cH,a1.fj]++r1).length) (abX (eo a0 ([a1.cH,a1.fj]++r1)) λr2=>ς r2) ξ
instance sl8Mac_c{a0:Int}{a1:aS}{r:Int}:FC prog (Nq a0 a1=ς r) 370 [aI a0,.agg (cZ a1)] [.c (.d (.i .i64 r))]:=⟨λH=>by
 refine fI func370 ntmps370 ?_
 refine zI (List.range 12) ?_
 refine aa H λr1 q1 H=>zA (ca (hF:=ES.h q1)) ?_
 obtain⟨h,H⟩:=rq H
 refine wA (Z1 (enc:=eI) (ys:=[a1.cH,a1.fj]) (zs:=r1) [1,2] h) ?_
 refine aa H λr2 q2 H=>zA (ca (hF:=IK.h q2)) ?_
 refine zY (ds:=[1]) (by kernel_rfl) (by kernel_rfl) rfl ?_
 refine wI ?_
 cases H
 exact jK⟩
def rV(a0:Int)(a1:aS):Option Bool:=
 abX (Nq a0 a1) λr1=>ς (eqB a1.mu r1)
instance YH{a0:Int}{a1:aS}{r:Bool}:FC prog (rV a0 a1=ς r) 336 [aI a0,.agg (cZ a1)] [.c (.d (.b r))]:=gG func336 ntmps336
end Go.AM
