/- A part. -/
import Derived.Test.YtmginjngmidkbaaGreatG
set_option linter.unusedVariables false
namespace Go.AM
open Go.Proofs
open Tryz
attribute [local irreducible] AWN NS AWO AWR AWC DR DZ dS gp iter
set_option maxRecDepth 100000
set_option maxHeartbeats 40000000
def ZV (a0:List Int):Option Bool:=
 some (ltB 1048576 (a0.length:Int))
instance lbig_c {a0:List Int} {r:Bool}:FC prog (ZV a0=some r) 8 [aL (a0.map eU8)] [.c (.d (.b r))]:=gF func8 ntmps8
end Go.AM
