/- A part. -/
import Derived.Test.YtmginjngmidkbaaGreatS11
set_option linter.unusedVariables false
namespace Go.AM
open Go.Proofs
open Tryz
attribute [local irreducible] AWN NS AWO AWR AWC DR DZ dS gp iter
set_option maxRecDepth 100000
set_option maxHeartbeats 40000000
def yC (a0:bj) (a1:Int):Option (ab×bj):=
 Option.bind (BU a0 a1) λr1=>some (r1.2.2.1,r1.2.2.2)
theorem Hm {a0:bj} {a1:Int} {r:ab×bj} (H:yC a0 a1=some r):FnW prog 33 (.var 135 (kM [.f] (co a0))) [tP 200,tI a1] (.var 135 (kM [.f] (co r.2))) [.agg (qM [.d,.d,.d,.d,.d] (bw r.1))]:=by
 refine fW func33 ntmps33 ?_
 refine aa H λr1 q1 H=>sA (cw (o:=200) (Sj q1)) ?_
 cases H
 exact f9
def rN (a0:List Int):Option ab:=
 Option.bind (Ki a0) λr1=>Option.bind (BL a0 50) λr2=>Option.bind (yC r1 (WR (40+r2))) λr3=>some r3.1
instance VB {a0:List Int} {r:ab}:FC prog (rN a0=some r) 9 [aL (a0.map eU8)] [.agg (qM [.d,.d,.d,.d,.d] (bw r))]:=⟨λH=>by
 refine fI func9 ntmps9 ?_
 refine aa H λr1 q1 H=>nA (cn (VS q1) rfl rfl trivial rfl rfl rfl) ?_
 refine aa H λr2 q2 H=>nA (ca (hF:=Sc.h q2)) ?_
 refine aa H λr3 q3 H=>sA (cw (o:=1) (Hm q3)) ?_
 cases H
 exact bX⟩
end Go.AM
