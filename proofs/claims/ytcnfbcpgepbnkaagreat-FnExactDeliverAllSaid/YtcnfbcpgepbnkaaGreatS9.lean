/- A part. -/
import Derived.Test.YtcnfbcpgepbnkaaGreatS5
import Derived.Test.YtcnfbcpgepbnkaaGreatS6
import Derived.Test.YtcnfbcpgepbnkaaGreatS7
set_option linter.unusedVariables false
open Option renaming some->ς,none->ξ
open Bool renaming true->ζ,false->η
open True renaming intro->θ
open Option renaming bind->abX
namespace Go.AM
open Go.Proofs
open Tryz
attribute [local irreducible] AWN NS AWO AWR AWC DR DZ cp ec iter
set_option maxRecDepth 100000
set_option maxHeartbeats 40000000
def u7(a0:Int)(a1:Int)(a2:Int)(a3:aT):Option (ab×Bool):=
 abX (cond (!eqB a3.ak a1) (ς ζ) (cond (!eqB a3.aU a2) (ς ζ) (abX (qw a0 a3) λr2=>ς (!r2)))) λ(v1:Bool)=>cond v1 (ς (bg,η)) (abX (tZ a0 a2) λr3=>abX (zE r3 1 0 a3.a9) λr4=>ς ((⟨r4.2.1,r4.1⟩:ab),r4.2.2))
instance YE{a0:Int}{a1:Int}{a2:Int}{a3:aT}{r:ab×Bool}:FC prog (u7 a0 a1 a2 a3=ς r) 214 [aI a0,aI a1,aI a2,.agg (db a3)] [.agg (qM [.d] (dR r.1)),.c (.d (.b r.2))]:=gG func214 ntmps214 (hb 17 28)
def pj(a0:av)(a1:aT):Option aK:=
 abX (u7 a0.bj a0.ak a0.aU a1) λr1=>abX (cond (!eqB a0.bV 2) (ς ζ) (ς (!r1.2))) λ(v2:Bool)=>cond v2 (abX (xb a0) λr3=>ς r3) (abX (pD a0) λr4=>abX (oi a0.bY r1.1) λr5=>abX (mE a0.bj (⟨8,a0.bJ,a0.ak,a0.aU,r5.bK,cF,0⟩:ar)) λr6=>ς (⟨{r4 with bY:=r5},[r6]⟩:aK))
instance Sk{a0:av}{a1:aT}{r:aK}:FC prog (pj a0 a1=ς r) 135 [.agg (aZ a0),.agg (db a1)] [.agg (qM [.d,.o,.o] (cd r))]:=gG func135 ntmps135 (hb 23 26)
end Go.AM
