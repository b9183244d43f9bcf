/- A part. -/
import Derived.Test.YtcnfbcpgepbnkaaGreatS3
import Derived.Test.YtcnfbcpgepbnkaaGreatS4
set_option linter.unusedVariables false
open Option renaming some->ς,none->ξ
open Bool renaming true->ζ,false->η
open True renaming intro->θ
open Option renaming bind->abX
namespace Go.AM
open Go.Proofs
open Tryz
attribute [local irreducible] AWN NS AWO AWR AWC DR DZ cp ec iter
set_option maxRecDepth 100000
set_option maxHeartbeats 40000000
def vc(a0:ae)(a1:Int):Option Bool:=
 abX (ix a0.aO a1) λx1=>abX (ix a0.a8 a1) λx2=>abX (nW x1) λr3=>abX (cond (!r3) (ς ζ) (abX (mc x2) λr5=>cond (!r5) (ς ζ) (abX (ix a0.bU a1) λx6=>abX (ju x6) λr7=>cond (!r7) (ς ζ) (cond (!(eqB x1.dJ.ID.dF x2.bF.ID.dF&&(eqB x1.dJ.ID.bW x2.bF.ID.bW&&ζ))) (ς ζ) (ς (!eqB x1.dJ.fg x2.bF.fg)))))) λ(v4:Bool)=>cond v4 (ς η) (abX (cond (ltB x1.bJ (a0.gr.bD.length:Int)) (cond (ltB x2.bJ (a0.gr.bD.length:Int)) (cond (eqB x2.dq.bi a1) (abX (ix a0.bU a1) λx9=>abX (gN x9 x2.dq) λr10=>ς r10) (ς η)) (ς η)) (ς η)) λ(v8:Bool)=>ς v8)
instance YM{a0:ae}{a1:Int}{r:Bool}:FC prog (vc a0 a1=ς r) 69 [.agg (ev a0),aI a1] [.c (.d (.b r))]:=gG func69 ntmps69 (hb 20 51) (hb 59 4)
def gh(a0:ae):Int->Option (bN (Int) (Bool))
 |v6=>cond (ltB v6 (a0.ax.length:Int)) (abX (ix a0.ax v6) λx7=>abX (cX x7.bC 0 (WR ((a0.aO.length:Int)-1))) λr8=>abX (cond (!r8) (ς ζ) (abX (ix a0.ax v6) λx10=>abX (cX x10.bJ 0 (WR ((a0.gr.bD.length:Int)-1))) λr11=>ς (!r11))) λ(v9:Bool)=>cond v9 (dn (ς η)) (ς (.next (WR (v6+1))))) (dn (cond (leB 0 (a0.gr.bD.length:Int)) (abX (cX a0.dy 0 (WR ((Jz .i64 1 (a0.gr.bD.length:Int))-1))) λr12=>abX (cond r12 (abX (cX a0.Fr 0 100000) λr14=>cond r14 (ς (leB 0 a0.lb)) (ς η)) (ς η)) λ(v13:Bool)=>ς v13) ξ))
def ge(a0:ae):Int->Option (bN (Int) (Bool))
 |v4=>cond (ltB v4 (a0.aO.length:Int)) (abX (vc a0 v4) λr5=>cond (!r5) (dn (ς η)) (ς (.next (WR (v4+1))))) (dn (iter (gh a0) FU 0))
def mb(a0:ae):Option Bool:=
 abX (sO a0.gr) λr1=>abX (cond (!r1) (ς ζ) (abX (qs a0.kG) λr3=>cond (!r3) (ς ζ) (cond (eqB a0.kG.iK 0) (ς ζ) (cond (ltB 4 (a0.aO.length:Int)) (ς ζ) (cond (!eqB (a0.a8.length:Int) (a0.aO.length:Int)) (ς ζ) (cond (!eqB (a0.bU.length:Int) (a0.aO.length:Int)) (ς ζ) (ς (ltB 200 (a0.ax.length:Int))))))))) λ(v2:Bool)=>cond v2 (ς η) (iter (ge a0) FU 0)
instance Pv{a0:ae}{r:Bool}:FC prog (mb a0=ς r) 26 [.agg (ev a0)] [.c (.d (.b r))]:=gG func26 ntmps26 (hb 9 50) (hl 0 3) (hl 2 4) (hb 81 95) (hb 105 2)
def je(a0:ag)(a1:ar):Option aP:=
 abX (t7 a0 a1) λr1=>abX (cond (!r1) (ς ζ) (cond (ltB a1.aU a0.aU) (ς ζ) (cond (eqB a1.aU a0.aU) (ς (!eqB a1.bJ a0.bJ)) (ς η)))) λ(v2:Bool)=>cond v2 (abX (ow a0) λr3=>ς r3) (abX (ov a0) λr4=>abX (rZ {r4 with aU:=a1.aU,bJ:=a1.bJ,kY:=0,oy:=d8,kf:=0} 6) λr5=>ς r5)
instance Lt{a0:ag}{a1:ar}{r:aP}:FC prog (je a0 a1=ς r) 212 [.agg (aB a0),.agg (cb a1)] [.agg (qM [.d,.d,.d,.o] (bP r))]:=gG func212 ntmps212 (hb 10 30)
def md(a0:ag)(a1:ar):Option aP:=
 abX (t7 a0 a1) λr1=>abX (cond (!r1) (ς ζ) (ς (ltB a0.aY.bK a1.bW))) λ(v2:Bool)=>cond v2 (abX (ow a0) λr3=>ς r3) (abX (ov a0) λr4=>abX (jZ a0.aY a1.bW) λr5=>abX (qF a0.aY.aJ) λr6=>abX (qF r5.aJ) λr7=>abX (pi a0.dq (WR (r6-r7))) λr8=>ς (⟨{r4 with kY:=0,aY:=r5,dq:=r8.1},([]:List ar)⟩:aP))
instance Pz{a0:ag}{a1:ar}{r:aP}:FC prog (md a0 a1=ς r) 213 [.agg (aB a0),.agg (cb a1)] [.agg (qM [.o,.o,.o,.o] (bP r))]:=gG func213 ntmps213 (hb 12 19) (hz 5)
def qw(a0:Int)(a1:aT):Option Bool:=
 abX (jv a1.a9) λr1=>abX (cond r1 (cond (eqB a1.a9.cH 1) (abX (tZ a0 a1.aU) λr3=>abX (rV r3 a1.a9) λr4=>ς r4) (ς η)) (ς η)) λ(v2:Bool)=>ς v2
instance Vu{a0:Int}{a1:aT}{r:Bool}:FC prog (qw a0 a1=ς r) 295 [aI a0,.agg (db a1)] [.c (.d (.b r))]:=gG func295 ntmps295 (hb 8 4)
end Go.AM
