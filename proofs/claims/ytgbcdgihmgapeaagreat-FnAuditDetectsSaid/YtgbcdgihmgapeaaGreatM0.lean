/- A part. -/
import Derived.Test.YtgbcdgihmgapeaaGreatG
set_option linter.unusedVariables false
open Option renaming some->ς,none->ξ
open Bool renaming true->ζ,false->η
open True renaming intro->θ
namespace Go.AM
open Go.Proofs
open Tryz
attribute [local irreducible] AWN NS AWO AWR AWC DR DZ cB eZ iter
set_option maxRecDepth 100000
set_option maxHeartbeats 40000000
def XM(a0:List Int):Option Bool:=
 ς (ltB 1048576 (a0.length:Int))
instance XN{a0:List Int}{r:Bool}:FC prog (XM a0=ς r) 4 [aL (a0.map eU8)] [.c (.d (.b r))]:=gG func4 ntmps4
def lat(a0:List Int)(a1:Int):Option Int:=
 cond (ltB a1 (a0.length:Int)) (Option.bind (ix a0 a1) λx1=>ς (WR (x1))) (ς (Int.tmod (WR ((WR (a1*31))+(WR ((a0.length:Int)*7)))) 256))
instance lat_c{a0:List Int}{a1:Int}{r:Int}:FC prog (lat a0 a1=ς r) 7 [aL (a0.map eU8),aI a1] [.c (.d (.i .i64 r))]:=gG func7 ntmps7
end Go.AM
