/- A part. -/
import Derived.Test.YtcnfbcpgepbnkaaGreatI0
import Derived.Test.YtcnfbcpgepbnkaaGreatI1
import Derived.Test.YtcnfbcpgepbnkaaGreatI2
set_option linter.unusedVariables false
open Option renaming some->ς,none->ξ
open Bool renaming true->ζ,false->η
open True renaming intro->θ
open Option renaming bind->abX
namespace Go.AM
open Go.Proofs
open Tryz
attribute [local irreducible] AWN NS AWO AWR AWC DR DZ cp ec iter
set_option maxRecDepth 100000
set_option maxHeartbeats 40000000
def kK(a0:ag):Option ag:=
 abX (gA a0.gu) λr1=>abX (jC a0.aX) λr2=>abX (mB a0.aY) λr3=>ς {a0 with gu:=r1,aX:=r2,aY:=r3}
instance TX{a0:ag}{r:ag}:FC prog (kK a0=ς r) 80 [.agg (aB a0)] [.agg (qM [.o,.o,.o] (gp r))]:=gG func80 ntmps80
def eT(a0:List ag):(Int×List ag)->Option (bN (Int×List ag) (List ag))
 |(v1,v2)=>cond (ltB v1 (a0.length:Int)) (abX (ix a0 v1) λx7=>abX (kK x7) λr8=>abX (ix v2 v1) λx9=>ς (.next (WR (v1+1),(v2.set (v1).toNat r8)))) (ς (.done v2))
def dv(a0:List ag):Option (List ag):=
 cond (iG 288 (a0.length:Int) (a0.length:Int)) (abX (iter (eT a0) FU (0,(List.replicate ((a0.length:Int)).toNat ud))) λ(v6:List ag)=>ς v6) ξ
instance vV{a0:List ag}{r:List ag}:FCV prog (dv a0=ς r) 79 [] [.v (.c (.d η (.l (a0.map aB)))),.v (.c (.fn 80))] [] (.v (.c (.w 210 r.length))) [(210,Wb r)]:=gV func79 ntmps79 (hL 0 (λ(v:Int×List ag) sl ob nx=>⟨(5,.v (.c (.w 210 v.2.length)))::(13,tI v.1)::xS [210] sl,[(210,Wb v.2)]++ob,nx⟩)) (hB 0 (λ(v:List ag) sl ob nx=>⟨(5,.v (.c (.w 210 v.length)))::(13,.any)::xS [210] sl,[(210,Wb v)]++ob,nx⟩))
def m9(a0:ae):Option ae:=
 abX (vW a0.gr) λr1=>abX (dL a0.aO) λr2=>abX (dv a0.a8) λr3=>abX (du a0.bU) λr4=>abX (dM a0.ax) λr5=>ς (⟨r1,r2,r3,r4,r5,a0.dy,a0.kG,a0.Fr,a0.lb⟩:ae)
instance TU{a0:ae}{r:ae}:FC prog (m9 a0=ς r) 35 [.agg (ev a0)] [.agg (qM [.o,.o,.o,.o,.o] (c7 r))]:=gG func35 ntmps35
def cM(a0:ag)(a1:List ar):Option aP:=
 abX (kK a0) λr1=>abX (eD a1) λr2=>ς (⟨r1,r2⟩:aP)
instance Qw{a0:ag}{a1:List ar}{r:aP}:FC prog (cM a0 a1=ς r) 252 [.agg (aB a0),aL (a1.map cb)] [.agg (qM [.o,.o,.o,.o] (bP r))]:=gG func252 ntmps252
def ki(a0:ag)(a1:ar):Option aP:=
 abX (mN a0.bF.ID (WR (a0.bF.cP+1))) λr1=>abX (pK a0.bF r1) λr2=>bif(eqB r2.1.ID.dF a0.bF.ID.dF&&(eqB r2.1.ID.bW a0.bF.ID.bW&&(eqB r2.1.fg a0.bF.fg&&(eqB r2.1.cP a0.bF.cP&&ζ)))) then(abX (cM a0 []) λr3=>ς r3) else(abX (cM {a0 with bF:=r2.1,am:=r2.2,bw:=r2.1.cP} [(⟨2,a1.bJ,r2.1.cP,0,0,r2.2,0⟩:ar)]) λr4=>ς r4)
instance Qm{a0:ag}{a1:ar}{r:aP}:FC prog (ki a0 a1=ς r) 248 [.agg (aB a0),.agg (cb a1)] [.agg (qM [.o,.o,.o,.o] (bP r))]:=gG func248 ntmps248 (hz 1)
end Go.AM
