/- A part. -/
import Derived.Test.YtmginjngmidkbaaGreatS12
set_option linter.unusedVariables false
namespace Go.AM
open Go.Proofs
open Tryz
attribute [local irreducible] AWN NS AWO AWR AWC DR ea gL
set_option maxRecDepth 100000
set_option maxHeartbeats 40000000
def zv (a0:bm) (a1:Int):Option (ab×bm):=
 Option.bind (CW a0 a1) λr1=>some (r1.2.2.1,r1.2.2.2)
theorem IG {a0:bm} {a1:Int} {r:ab×bm} (H:zv a0 a1=some r):FnW prog 33 (.var 135 (kM [.f] (ci a0))) [tP 200,tI a1] (.var 135 (kM [.f] (ci r.2))) [.agg (qM [.d,.d,.d,.d,.d] (aU r.1))]:=by
 refine fW func33 ntmps33 ?_
 refine aa H λr1 q1 H=>sA (cw (o:=200) (Sw q1)) ?_
 cases H
 exact f4
def rF (a0:List Int):Option ab:=
 Option.bind (Ld a0) λr1=>Option.bind (CM a0 50) λr2=>Option.bind (zv r1 (WR (40+r2))) λr3=>some r3.1
theorem Hg {a0:List Int} {r:ab} (H:rF a0=some r):Fn prog 9 [aL (a0.map eU8)] [.agg (qM [.d,.d,.d,.d,.d] (aU r))]:=by
 refine fI func9 ntmps9 ?_
 refine aa H λr1 q1 H=>nA (cn (VG q1) rfl rfl trivial rfl rfl rfl) ?_
 refine aa H λr2 q2 H=>nA (ca (hF:=Sr q2)) ?_
 refine aa H λr3 q3 H=>sA (cw (o:=1) (IG q3)) ?_
 exact ao H
end Go.AM
