/- A part. -/
import Derived.Test.YtmginjngmidkbaaGreatI8
import Derived.Test.YtmginjngmidkbaaGreatM1
import Derived.Test.YtmginjngmidkbaaGreatS13
set_option linter.unusedVariables false
set_option linter.unusedSimpArgs false
open Option renaming bind->abU
namespace Go.AM
open Go.Proofs
open Tryz
attribute [local irreducible] AWN NS AWO AWR AWC DR ea gL
set_option maxRecDepth 100000
set_option maxHeartbeats 40000000
def jy (r2:ab) (r3:Int) (r4:ab):(Int×ab)->Option (cq (Int×ab) (Bool))
 |(v5,v16)=>abU (bif ltB v5 (Int.tmod r3 5) then(some (ltB 0 (v16.aK.length:Int))) else(some false)) λ(v17:Bool)=>bif v17 then(abU (mM v16 {d9 with a8:=2}) λr18=>bif !r18.2 then(dn (some false)) else(some (.next (WR (v5+1),r18.1)))) else(dn (abU (oC r4 v16) λr19=>abU (bif r19 then(abU (iU r2 4000) λr21=>abU (wk r21) λr22=>bif r22 then(abU (gY r4) λr23=>bif r23 then(abU (iU r2 (-1)) λr24=>abU (oC r24 r2) λr25=>some r25) else(some false)) else(some false)) else(some false)) λ(v20:Bool)=>some v20))
def uR (a0:List Int):Option Bool:=
 abU (Y7 a0) λr1=>bif r1 then(some true) else(abU (rF a0) λr2=>abU (lat a0 0) λr3=>abU (iU r2 (Int.tmod r3 5)) λr4=>iter (jy r2 r3 r4) FU (0,r2))
theorem EU {a0:List Int} {r:Bool} (H:uR a0=some r):Fn prog 3 [aL (a0.map eU8)] [.c (.d (.b r))]:=by
 refine fI func3 ntmps3 ?_
 refine aa H λr1 q1 H=>nA (ca (hF:=Y8 q1)) ?_
 refine cC H ?_ ?_<;>intro H
 .exact ao H
 refine aa H λr2 q2 H=>nA (ca (hF:=Hg q2)) ?_
 refine aa H λr3 q3 H=>nA (ca (hF:=lat_c q3)) ?_
 refine nA (ir rfl rfl rfl (by decide)) ?_
 refine aa H λr4 q4 H=>nA (ca (hF:=uJ q4)) ?_
 refine iT H (λq=>⟨[(3,tP 0),(4,tI (Int.tmod r3 5)),(5,tP 5),(6,tP 6),(7,tI q.1)],(oM [.t,.w 1,.w 2,.w 3,.w 4] 5 34 (aU r4)++[(0,.var 34 (kM [.t,.t,.t,.t,.t] (aU r2))),(6,.var 34 (kM [.t,.t,.t,.t,.t] (aU q.2)))]),7⟩) ?_
 rintro⟨v5,v16⟩ o H
 refine ad ?_
 refine aa H λv17 Hj H=>jR ⟨[(3,tP 0),(4,tI (Int.tmod r3 5)),(5,tP 5),(6,tP 6),(7,tI v5),(29,tB v17)],(oM [.t,.w 1,.w 2,.w 3,.w 4] 5 34 (aU r4)++[(0,.var 34 (kM [.t,.t,.t,.t,.t] (aU r2))),(6,.var 34 (kM [.t,.t,.t,.t,.t] (aU v16)))]),7⟩ ?_ ?_
 .exact az Hj
 refine cC H ?_ ?_<;>intro H
 .refine aa H λr18 q18 H=>sA (cwu [] [(210,7),(211,8),(212,9),(213,10)] 11 (BU q18)) ?_
  refine cC H ?_ ?_<;>intro H
  .exact aQ H
  cases H
  refine uQ ?_
  refine aq (bb (o:=7)) ?_
  refine aq (b7 (k:=36)) ?_
  refine aq (b7 (k:=40)) ?_
  refine aq (cL (o:=6)) ?_
  refine aq (cL (o:=11)) ?_
  refine aq (bb (o:=8)) ?_
  refine aq (b7 (k:=36)) ?_
  refine aq (b7 (k:=40)) ?_
  refine aq (cL (o:=6)) ?_
  refine aq (cL (o:=11)) ?_
  refine aq (bb (o:=9)) ?_
  refine aq (b7 (k:=36)) ?_
  refine aq (b7 (k:=40)) ?_
  refine aq (cL (o:=6)) ?_
  refine aq (cL (o:=11)) ?_
  refine aq (bb (o:=10)) ?_
  refine aq (b7 (k:=36)) ?_
  refine aq (b7 (k:=40)) ?_
  refine aq (cL (o:=6)) ?_
  refine aq (cL (o:=11)) ?_
  exact wo
 refine aR H λH=>?_
 refine dI ?_
 refine aa H λr19 q19 H=>dA (ca (hF:=yM q19)) ?_
 refine aa H λv20 Hj H=>fA ⟨[(2,tB v20)],[],0⟩ ?_ ?_
 .have H:=Hj
  refine wI ?_
  refine dC H ?_ ?_<;>intro H
  .refine aa H λr21 q21 H=>dG (ca (hF:=uJ q21)) ?_
   refine aa H λr22 q22 H=>dG (ca (hF:=Gt q22)) ?_
   refine dC H ?_ ?_<;>intro H
   .refine aa H λr23 q23 H=>dG (ca (hF:=nZ q23)) ?_
    refine dC H ?_ ?_<;>intro H
    .refine aa H λr24 q24 H=>dG (ca (hF:=uJ q24)) ?_
     refine aa H λr25 q25 H=>dG (ca (hF:=yM q25)) ?_
     refine wI ?_
     exact ai H
    refine wI ?_
    exact ai H
   refine wI ?_
   exact ai H
  refine wI ?_
  exact ai H
 refine wI ?_
 exact ao H
end Go.AM
