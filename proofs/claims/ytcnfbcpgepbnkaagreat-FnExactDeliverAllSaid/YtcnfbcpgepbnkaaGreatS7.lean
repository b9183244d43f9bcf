/- A part. -/
import Derived.Test.YtcnfbcpgepbnkaaGreatS3
import Derived.Test.YtcnfbcpgepbnkaaGreatS4
set_option linter.unusedVariables false
open Option renaming some->ς,none->ξ
open Bool renaming true->ζ,false->η
open True renaming intro->θ
open Option renaming bind->abX
namespace Go.AM
open Go.Proofs
open Tryz
attribute [local irreducible] AWN NS AWO AWR AWC DR DZ cp ec iter
set_option maxRecDepth 100000
set_option maxHeartbeats 40000000
def oh(a0:ag)(a1:ar):Option aP:=
 abX (nV a0.bF.ID (WR (a0.bF.cP+1))) λr1=>abX (pU a0.bF r1) λr2=>bif(eqB r2.1.ID.dF a0.bF.ID.dF&&(eqB r2.1.ID.bW a0.bF.ID.bW&&(eqB r2.1.fg a0.bF.fg&&(eqB r2.1.cP a0.bF.cP&&ζ)))) then(abX (ow a0) λr3=>ς r3) else(abX (ov a0) λr4=>ς (⟨{r4 with bF:=r2.1,am:=r2.2,bw:=r2.1.cP},[(⟨2,a1.bJ,r2.1.cP,0,0,r2.2,0⟩:ar)]⟩:aP))
instance Rv{a0:ag}{a1:ar}{r:aP}:FC prog (oh a0 a1=ς r) 210 [.agg (aB a0),.agg (cb a1)] [.agg (qM [.o,.o,.o,.o] (bP r))]:=gG func210 ntmps210 (hz 1)
def kV(a0:ag)(a1:ar):Option aP:=
 abX (cond (leB a0.bw 0) (ς ζ) (cond (!eqB a1.ak a0.bw) (ς ζ) (abX (oU a0.am a1.bW) λr2=>cond (!r2) (ς ζ) (ς (leB 999999 a0.aU))))) λ(v1:Bool)=>cond v1 (abX (ow a0) λr3=>ς r3) (abX (ov a0) λr4=>abX (rZ (⟨r4.bF,r4.gu,1,cF,0,a0.bw,a0.am.fg,WR (a0.aU+1),a1.bJ,0,d8,r4.aX,r4.aY,r4.kf,r4.dq⟩:ag) 4) λr5=>ς r5)
instance Ni{a0:ag}{a1:ar}{r:aP}:FC prog (kV a0 a1=ς r) 211 [.agg (aB a0),.agg (cb a1)] [.agg (qM [.d,.d,.d,.o] (bP r))]:=gG func211 ntmps211 (hb 9 28)
def zE(a0:Int)(a1:Int)(a2:Int)(a3:aS):Option (List Int×Int×Bool):=
 abX (jv a3) λr1=>abX (cond (!r1) (ς ζ) (cond (!eqB a3.cH a1) (ς ζ) (abX (rV a0 a3) λr3=>cond (!r3) (ς ζ) (ς (leB a3.fj a2))))) λ(v2:Bool)=>cond v2 (ς (([]:List Int),a2,η)) (abX (rQ a0 (WR ((WR (2*a3.fj))+a3.cH))) λr4=>abX (AE r4 a3.bk) λr5=>ς (r5,a3.fj,ζ))
instance YG{a0:Int}{a1:Int}{a2:Int}{a3:aS}{r:List Int×Int×Bool}:FC prog (zE a0 a1 a2 a3=ς r) 296 [aI a0,aI a1,aI a2,.agg (cZ a3)] [.c (.own 5 1 (r.1.map eU8) r.1.length),.c (.d (.i .i64 r.2.1)),.c (.d (.b r.2.2))]:=gG func296 ntmps296 (hb 14 31)
end Go.AM
