/- A part. -/
import Derived.Test.YtcnfbcpgepbnkaaGreatI3
import Derived.Test.YtcnfbcpgepbnkaaGreatI4
import Derived.Test.YtcnfbcpgepbnkaaGreatI5
set_option linter.unusedVariables false
open Option renaming some->ς,none->ξ
open Bool renaming true->ζ,false->η
open True renaming intro->θ
open Option renaming bind->abX
namespace Go.AM
open Go.Proofs
open Tryz
attribute [local irreducible] AWN NS AWO AWR AWC DR DZ cp ec iter
set_option maxRecDepth 100000
set_option maxHeartbeats 40000000
def iN(a0:ae)(a1:Int):Option Bool:=
 abX (ix a0.aO a1) λx1=>abX (ix a0.a8 a1) λx2=>abX (mO x1) λr3=>abX (cond r3 (abX (lN x2) λr5=>cond r5 (abX (ix a0.bU a1) λx6=>abX (jk x6) λr7=>cond r7 (bif(eqB x1.dJ.ID.dF x2.bF.ID.dF&&(eqB x1.dJ.ID.bW x2.bF.ID.bW&&ζ)) then(cond (eqB x1.dJ.fg x2.bF.fg) (abX (qj a0.gr x1.bJ) λr8=>cond r8 (abX (qj a0.gr x2.bJ) λr9=>cond r9 (cond (eqB x2.dq.bi a1) (abX (ix a0.bU a1) λx10=>abX (gz x10 x2.dq) λr11=>ς r11) (ς η)) (ς η)) (ς η)) (ς η)) else(ς η)) (ς η)) (ς η)) (ς η)) λ(v4:Bool)=>ς v4
instance J0{a0:ae}{a1:Int}{r:Bool}:FC prog (iN a0 a1=ς r) 87 [.agg (ev a0),aI a1] [.c (.d (.b r))]:=gG func87 ntmps87 (hb 19 4)
def f7(a0:ae):Int->Option (bN (Int) (Bool))
 |v7=>cond (ltB v7 (a0.ax.length:Int)) (abX (ix a0.ax v7) λx8=>abX (bM x8.bC 0 (WR ((a0.aO.length:Int)-1))) λr9=>abX (cond (!r9) (ς ζ) (abX (qj a0.gr x8.bJ) λr11=>ς (!r11))) λ(v10:Bool)=>cond v10 (dn (ς η)) (ς (.next (WR (v7+1))))) (dn (cond (leB 0 (a0.gr.bD.length:Int)) (abX (bM a0.dy 0 (WR ((Jz .i64 1 (a0.gr.bD.length:Int))-1))) λr12=>abX (cond r12 (abX (bM a0.Fr 0 100000) λr14=>cond r14 (ς (leB 0 a0.lb)) (ς η)) (ς η)) λ(v13:Bool)=>ς v13) ξ))
def f6(a0:ae):Int->Option (bN (Int) (Bool))
 |v5=>cond (ltB v5 (a0.aO.length:Int)) (abX (iN a0 v5) λr6=>cond (!r6) (dn (ς η)) (ς (.next (WR (v5+1))))) (dn (cond (ltB 200 (a0.ax.length:Int)) (ς η) (iter (f7 a0) FU 0)))
def lL(a0:ae):Option Bool:=
 abX (sx a0.gr) λr1=>abX (cond (!r1) (ς ζ) (abX (qf a0.kG) λr3=>cond (!r3) (ς ζ) (ς (eqB a0.kG.iK 0)))) λ(v2:Bool)=>cond v2 (ς η) (abX (cond (ltB 4 (a0.aO.length:Int)) (ς ζ) (cond (!eqB (a0.a8.length:Int) (a0.aO.length:Int)) (ς ζ) (ς (!eqB (a0.bU.length:Int) (a0.aO.length:Int))))) λ(v4:Bool)=>cond v4 (ς η) (iter (f6 a0) FU 0))
instance Ac{a0:ae}{r:Bool}:FC prog (lL a0=ς r) 36 [.agg (ev a0)] [.c (.d (.b r))]:=gG func36 ntmps36 (hb 10 21) (hb 26 43) (hl 0 47) (hl 2 62) (hb 74 81) (hb 92 2)
def f8(a0:ag)(a1:ar):Option aP:=
 abX (cond (!eqB a0.bV 1) (ς ζ) (cond (!eqB a1.ak a0.ak) (ς ζ) (abX (gQ a0.bj a1) λr2=>ς (!r2)))) λ(v1:Bool)=>cond v1 (abX (cM a0 []) λr3=>ς r3) (abX (cond (ltB a1.aU a0.aU) (ς ζ) (cond (eqB a1.aU a0.aU) (ς (!eqB a1.bJ a0.bJ)) (ς η))) λ(v4:Bool)=>cond v4 (abX (cM a0 []) λr5=>ς r5) (abX (lC {a0 with aU:=a1.aU,bJ:=a1.bJ,kY:=0,oy:=d8,kf:=0} 6) λr6=>abX (cM {a0 with aU:=a1.aU,bJ:=a1.bJ,kY:=0,oy:=d8,kf:=0} [r6]) λr7=>ς r7))
instance JZ{a0:ag}{a1:ar}{r:aP}:FC prog (f8 a0 a1=ς r) 250 [.agg (aB a0),.agg (cb a1)] [.agg (qM [.o,.o,.o,.o] (bP r))]:=gG func250 ntmps250 (hb 8 21) (hb 29 42) (hz 10)
end Go.AM
