/- A part. -/
import Derived.Test.YtigcecmbknoijaaGreatDoorG
set_option linter.unusedVariables false
open Option renaming some->ς,none->ξ
open Bool renaming true->ζ,false->η
open True renaming intro->θ
namespace Go.AM
open Go.Proofs
open Tryz
attribute [local irreducible] AWN NS AWO AWR AWC DR DZ cM eN iter
set_option maxRecDepth 100000
set_option maxHeartbeats 40000000
def QA(a0:List Int):Option Bool:=
 ς (ltB 1048576 (a0.length:Int))
instance lbig_c{a0:List Int}{r:Bool}:FC prog (QA a0=ς r) 5 [aL (a0.map eU8)] [.c (.d (.b r))]:=gG func5 ntmps5
end Go.AM
