/- A part. -/
import Derived.Test.YtljhooecmjejiaaGreatS28
set_option linter.unusedVariables false
namespace Go.AM
open Go.Proofs
attribute [local irreducible] AWN NS AWO AWR AWC DR cZ ey
set_option maxRecDepth 100000
set_option maxHeartbeats 40000000
def rv (a0:List Int):Option (ab×List bp):=
 Option.bind (Fb a0) fun r1=>Option.bind (pL r1) fun r2=>some (r2.1,r2.2.1)
theorem EO {a0:List Int} {r:ab×List bp} (H:rv a0=some r):Fn Tryz.prog 33 [aL (a0.map eU8)] [.agg (qM [.d,.d,.d,.d,.d] (aH r.1)),.c (.own 107 2 (r.2.map da) r.2.length)]:=by
 refine fI Tryz.func33 Tryz.ntmps33 ?_
 obtain⟨r1,q1,H⟩:=ob H
 refine nA (cn (OF q1) rfl rfl trivial rfl rfl rfl) ?_
 obtain⟨r2,q2,H⟩:=ob H
 refine sA (cw (o:=1) (Cz q2)) ?_
 cases H
 exact ah
end Go.AM
