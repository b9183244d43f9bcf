/- A part. -/
import Derived.Test.YtbfpkbncbebapaaGreatS5
set_option linter.unusedVariables false
namespace Go.AM
open Go.Proofs
open Tryz
attribute [local irreducible] AWN NS AWO AWR AWC DR dO ip
set_option maxRecDepth 100000
set_option maxHeartbeats 40000000
def qA (a0:List Int):Option (ab×Int):=
 Option.bind (Iz a0) λr1=>Option.bind (CT r1) λr2=>Option.bind (gG r2.2 256) λr3=>some (r2.1,r3.1)
theorem Ez {a0:List Int} {r:ab×Int} (H:qA a0=some r):FnV prog 24 [] [.v (.c (.d false (.l (a0.map eU8))))] [] (.tup [.agg (kM [.t,.n 210,.n 211,.n 212,.n 213] (bD r.1)),.c (.d false (.i .i64 r.2))]) [(210,n86 r.1.ah),(211,n69 r.1.aj),(212,n89 r.1.aB),(213,n48 r.1.aA)]:=by
 refine fV func24 ntmps24 ?_
 refine aa H λr1 q1 H=>nA (cn (Ud q1) rfl rfl trivial rfl rfl rfl) ?_
 refine aa H λr2 q2 H=>sA (cwv [(200,211)] [(210,212),(211,213),(212,214),(213,215)] 216 (QF q2)) ?_
 refine aa H λr3 q3 H=>sA (cw (o:=211) (fU q3)) ?_
 cases H
 refine bO (wS 212 210) ?_
 refine bO (wS 213 211) ?_
 refine bO (wS 214 212) ?_
 refine bO (wS 215 213) ?_
 exact cV
end Go.AM
