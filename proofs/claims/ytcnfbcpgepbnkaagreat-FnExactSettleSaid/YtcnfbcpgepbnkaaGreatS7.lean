/- A part. -/
import Derived.Test.YtcnfbcpgepbnkaaGreatS3
import Derived.Test.YtcnfbcpgepbnkaaGreatS4
import Derived.Test.YtcnfbcpgepbnkaaGreatS5
set_option linter.unusedVariables false
open Option renaming some->ς,none->ξ
open Bool renaming true->ζ,false->η
open True renaming intro->θ
open Option renaming bind->aeP
namespace Go.AM
open Go.Proofs
open Tryz
attribute [local irreducible] AWN NS AWO AWR AWC DR DZ cO eB iter
set_option maxRecDepth 100000
set_option maxHeartbeats 40000000
def pt(a0:ag)(a1:aD):Option bm:=
 aeP (ph a0.bO.ID (WR (a0.bO.df+1))) λr1=>aeP (rO a0.bO r1) λr2=>bif(eqB r2.1.ID.dT a0.bO.ID.dT&&(eqB r2.1.ID.cj a0.bO.ID.cj&&(eqB r2.1.f9 a0.bO.f9&&(eqB r2.1.df a0.bO.df&&ζ)))) then(aeP (pD a0) λr3=>ς r3) else(aeP (kN a0) λr4=>ς (⟨{r4 with bO:=r2.1,aA:=r2.2,bN:=r2.1.df},[(⟨2,a1.bC,r2.1.df,0,0,r2.2,0⟩:aD)]⟩:bm))
instance VP{a0:ag}{a1:aD}{r:bm}:FC prog (pt a0 a1=ς r) 210 [.agg (aM a0),.agg (cP a1)] [.agg (qM [.o,.o,.o,.o] (cV r))]:=gG func210 ntmps210 (hz 1)
def mq(a0:ag)(a1:aD):Option bm:=
 aeP (cond (leB a0.bN 0) (ς ζ) (cond (!eqB a1.av a0.bN) (ς ζ) (aeP (p9 a0.aA a1.cj) λr2=>cond (!r2) (ς ζ) (ς (leB 999999 a0.a8))))) λ(v1:Bool)=>cond v1 (aeP (pD a0) λr3=>ς r3) (aeP (kN a0) λr4=>aeP (ur (⟨r4.bO,r4.fr,1,db,0,a0.bN,a0.aA.f9,WR (a0.a8+1),a1.bC,0,eA,r4.aS,r4.aC,r4.du,r4.bM⟩:ag) 4) λr5=>ς r5)
instance Rp{a0:ag}{a1:aD}{r:bm}:FC prog (mq a0 a1=ς r) 211 [.agg (aM a0),.agg (cP a1)] [.agg (qM [.d,.d,.d,.o] (cV r))]:=gG func211 ntmps211 (hb 9 28)
def Cj(a0:Int)(a1:Int)(a2:Int)(a3:aV):Option (List Int×Int×Bool):=
 aeP (kF a3) λr1=>aeP (cond (!r1) (ς ζ) (cond (!eqB a3.c7 a1) (ς ζ) (aeP (ul a0 a3) λr3=>cond (!r3) (ς ζ) (ς (leB a3.f8 a2))))) λ(v2:Bool)=>cond v2 (ς (([]:List Int),a2,η)) (aeP (p8 a0 (WR ((WR (2*a3.f8))+a3.c7))) λr4=>aeP (DD r4 a3.be) λr5=>ς (r5,a3.f8,ζ))
instance acH{a0:Int}{a1:Int}{a2:Int}{a3:aV}{r:List Int×Int×Bool}:FC prog (Cj a0 a1 a2 a3=ς r) 296 [aI a0,aI a1,aI a2,.agg (dL a3)] [.c (.own 5 1 (r.1.map eU8) r.1.length),.c (.d (.i .i64 r.2.1)),.c (.d (.b r.2.2))]:=gG func296 ntmps296 (hb 14 31)
def qB(a0:aj)(a1:cq)(a2:Int):Option (aj×cq):=
 aeP (DF a0 a1.ax a2) λr1=>aeP (fm a0 a1) λr2=>aeP (cond (!r2) (ς ζ) (aeP (g6 {a1 with cH:=WR (a1.cH+r1.2)}) λr4=>ς (!r4))) λ(v3:Bool)=>cond v3 (aeP (mU a0) λr5=>ς (r5,a1)) (ς (r1.1,{a1 with cH:=WR (a1.cH+r1.2)}))
instance Ww{a0:aj}{a1:cq}{a2:Int}{r:aj×cq}:FC prog (qB a0 a1 a2=ς r) 360 [.agg (bj a0),.agg (jT a1),aI a2] [.agg (qM [.o] (cp r.1)),.agg (qM [] (wZ r.2))]:=gG func360 ntmps360 (hb 29 33) (hz 5) (hz 6)
def sK(a0:ag)(a1:aj)(a2:Int):Option (ag×aj):=
 aeP (kN a0) λr1=>aeP (pq a0 a2) λr2=>cond (leB r2 0) (aeP (mU a1) λr3=>ς (r1,r3)) (aeP (ML r2 a0.fr.dR) λr4=>aeP (qB a1 a0.bM r4) λr5=>ς ({r1 with bM:=r5.2},r5.1))
instance IP{a0:ag}{a1:aj}{a2:Int}{r:ag×aj}:FC prog (sK a0 a1 a2=ς r) 325 [.agg (aM a0),.agg (bj a1),aI a2] [.agg (qM [.o,.o,.o] (dh r.1)),.agg (qM [.o] (cp r.2))]:=gG func325 ntmps325 (hz 4) (hz 7) (hz 5)
end Go.AM
