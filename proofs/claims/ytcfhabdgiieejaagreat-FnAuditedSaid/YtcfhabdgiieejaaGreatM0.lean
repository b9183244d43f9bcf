/- A part. -/
import Derived.Test.YtcfhabdgiieejaaGreatG
set_option linter.unusedVariables false
namespace Go.AM
open Go.Proofs
open Tryz
attribute [local irreducible] AWN NS AWO AWR AWC DR DZ dQ f9 iter
set_option maxRecDepth 100000
set_option maxHeartbeats 40000000
def Z5 (a0:List Int):Option Bool:=
 some (ltB 1048576 (a0.length:Int))
instance Z6 {a0:List Int} {r:Bool}:FC prog (Z5 a0=some r) 7 [aL (a0.map eU8)] [.c (.d (.b r))]:=gF func7 ntmps7
end Go.AM
