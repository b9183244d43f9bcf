/- A part. -/
import Derived.Test.YtcnfbcpgepbnkaaGreatS6
import Derived.Test.YtcnfbcpgepbnkaaGreatS7
set_option linter.unusedVariables false
open Option renaming some->ς,none->ξ
open Bool renaming true->ζ,false->η
open True renaming intro->θ
open Option renaming bind->abX
namespace Go.AM
open Go.Proofs
open Tryz
attribute [local irreducible] AWN NS AWO AWR AWC DR DZ cp ec iter
set_option maxRecDepth 100000
set_option maxHeartbeats 40000000
def om(a0:ag)(a1:ar):Option aP:=
 abX (kw a1) λr1=>cond (!r1) (abX (ow a0) λr2=>ς r2) (cond (eqB a1.d9 1) (abX (oh a0 a1) λr3=>ς r3) (cond (eqB a1.d9 3) (abX (kV a0 a1) λr4=>ς r4) (cond (eqB a1.d9 5) (abX (je a0 a1) λr5=>ς r5) (cond (eqB a1.d9 8) (abX (md a0 a1) λr6=>ς r6) (abX (ow a0) λr7=>ς r7)))))
instance Ry{a0:ag}{a1:ar}{r:aP}:FC prog (om a0 a1=ς r) 132 [.agg (aB a0),.agg (cb a1)] [.agg (qM [.d,.d,.d,.o] (bP r))]:=gG func132 ntmps132
end Go.AM
