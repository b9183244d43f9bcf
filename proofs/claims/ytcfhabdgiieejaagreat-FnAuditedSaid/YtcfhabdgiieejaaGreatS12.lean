/- A part. -/
import Derived.Test.YtcfhabdgiieejaaGreatS11
set_option linter.unusedVariables false
namespace Go.AM
open Go.Proofs
open Tryz
attribute [local irreducible] AWN NS AWO AWR AWC DR DZ dQ f9 iter
set_option maxRecDepth 100000
set_option maxHeartbeats 40000000
def ud (a0:List Int):Option (ab×List cX):=
 Option.bind (JX a0) λr1=>Option.bind (BG a0 45) λr2=>Option.bind (BN r1 (WR (30+r2))) λr3=>some (r3.1,r3.2.1)
instance GY {a0:List Int} {r:ab×List cX}:FC prog (ud a0=some r) 8 [aL (a0.map eU8)] [.agg (qM [.d,.d,.d,.d,.d] (bw r.1)),.c (.own 50 25 (r.2.map yR) r.2.length)]:=⟨λH=>by
 refine fI func8 ntmps8 ?_
 refine aa H λr1 q1 H=>nA (cn (VW q1) rfl rfl trivial rfl rfl rfl) ?_
 refine aa H λr2 q2 H=>nA (ca (hF:=RT.h q2)) ?_
 refine aa H λr3 q3 H=>sA (cw (o:=1) (R5 q3)) ?_
 cases H
 exact dM⟩
end Go.AM
