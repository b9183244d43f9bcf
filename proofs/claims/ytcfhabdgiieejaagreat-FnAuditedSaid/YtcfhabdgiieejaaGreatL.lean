/- A part. -/
import Derived.Test.YtcfhabdgiieejaaGreatI9
import Derived.Test.YtcfhabdgiieejaaGreatM0
import Derived.Test.YtcfhabdgiieejaaGreatS12
set_option linter.unusedVariables false
set_option linter.unusedSimpArgs false
open Option renaming bind->abJ
namespace Go.AM
open Go.Proofs
open Tryz
attribute [local irreducible] AWN NS AWO AWR AWC DR DZ dQ f9 iter
set_option maxRecDepth 100000
set_option maxHeartbeats 40000000
def p4 (r2:ab×List cX):(Int×ab)->Option (cr (Int×ab) (Bool))
 |(v3,v14)=>bif ltB v3 (r2.2.length:Int) then(abJ (ix r2.2 v3) λx15=>abJ (qo v14 x15) λr16=>abJ (ix r2.2 v3) λx17=>abJ (nJ v14 x17) λr18=>bif !(booB r16 r18) then(dn (some false)) else(abJ (ix r2.2 v3) λx19=>abJ (nJ v14 x19) λr20=>bif !r20 then(some (.next (WR (v3+1),v14))) else(abJ (abJ (ix r2.2 v3) λx32=>abJ (qk v14 x32) λr33=>some r33.1) λ(v31:ab)=>abJ (bif eqB (Int.tmod v3 8) 0 then(abJ (Cd v31) λr35=>some (!r35)) else(some false)) λ(v34:Bool)=>bif v34 then(dn (some false)) else(some (.next (WR (v3+1),v31)))))) else(dn (abJ (Cd v14) λr36=>some r36))
def Am (a0:List Int):Option Bool:=
 abJ (Z5 a0) λr1=>bif r1 then(some true) else(abJ (ud a0) λr2=>iter (p4 r2) FU (0,r2.1))
instance Jb {a0:List Int} {r:Bool}:FC prog (Am a0=some r) 5 [aL (a0.map eU8)] [.c (.d (.b r))]:=⟨λH=>by
 refine fI func5 ntmps5 ?_
 refine aa H λr1 q1 H=>nA (ca (hF:=Z6.h q1)) ?_
 refine cC H ?_ ?_<;>intro H
 .exact ao H
 refine aa H λr2 q2 H=>nA (ca (hF:=GY.h q2)) ?_
 refine iT H (λq=>⟨[(3,tP 1),(4,.v (.c (.w 0 r2.2.length))),(5,tI q.1)],[(0,w50 r2.2),(1,.var 34 (kM [.t,.t,.t,.t,.t] (bw q.2)))],2⟩) ?_
 rintro⟨v3,v14⟩ o H
 refine ad ?_
 refine cC H ?_ ?_<;>intro H
 .refine dI ?_
  refine aa H λx15 hx15 H=>dA (xwT hx15) ?_
  refine dA (oea (he:=dF _ hx15)) ?_
  refine aa H λr16 q16 H=>dA (ca (hF:=Gv q16)) ?_
  refine aa H λx17 hx17 H=>dA (xwT hx17) ?_
  refine dA (oea (he:=dF _ hx17)) ?_
  refine aa H λr18 q18 H=>dA (ca (hF:=uW.h q18)) ?_
  refine wI ?_
  refine cC H ?_ ?_<;>intro H
  .exact aQ H
  refine dI ?_
  refine aa H λx19 hx19 H=>dA (xwT hx19) ?_
  refine dA (oea (he:=dF _ hx19)) ?_
  refine aa H λr20 q20 H=>dA (ca (hF:=uW.h q20)) ?_
  refine wI ?_
  refine cC H ?_ ?_<;>intro H
  .exact aN H
  refine wI ?_
  refine aa H λv31 Hj H=>Iu ⟨[(3,tP 1),(4,.v (.c (.w 0 r2.2.length))),(5,tI v3),(6,tP 2)],(oM [.t,.w 3,.w 4,.w 5,.w 6] 2 34 (bw v31)++[(0,w50 r2.2),(1,.var 34 (kM [.t,.t,.t,.t,.t] (bw v14)))]),7⟩ Try.follows ?_ ?_
  .have H:=Hj
   refine B0 5 9 rfl ?_ ?_
   .refine BZ [0,1,2,3,4,9,5,6,7,8,10,11] (by kernel_rfl) (by kernel_rfl) rfl ?_
    refine wI ?_
    refine aa H λx32 hx32 H=>zA (xwT hx32) ?_
    refine zA (oea (he:=dF _ hx32)) ?_
    refine aa H λr33 q33 H=>zB bC (fg rfl (cwu [] [(210,3),(211,4),(212,5),(213,6)] 7 (uO.h q33))) bC ?_
    refine wA (spx 100703) ?_
    exact ai H
   refine BZ [0,1,2,3,4,5,6,7,8,9,10,11] (by kernel_rfl) (by kernel_rfl) rfl ?_
   refine wI ?_
   refine aa H λx32 hx32 H=>zA (xwT hx32) ?_
   refine zA (oea (he:=dF _ hx32)) ?_
   refine aa H λr33 q33 H=>zB bC (fg rfl (cwu [] [(210,2),(211,3),(212,4),(213,5)] 6 (uO.h q33))) bC ?_
   refine wA (spx 100704) ?_
   cases H
   refine am (wS 2 6) ?_
   refine am (wS 3 6) ?_
   refine am (wS 4 6) ?_
   refine am (wS 5 6) ?_
   exact wo
  refine wI ?_
  refine nA (ir rfl rfl rfl (by decide)) ?_
  refine aa H λv34 Hj H=>jR ⟨[(3,tP 1),(4,.v (.c (.w 0 r2.2.length))),(5,tI v3),(58,tB v34)],(oM [.t,.w 3,.w 4,.w 5,.w 6] 1 34 (bw v31)++[(0,w50 r2.2)]),7⟩ ?_ ?_
  .refine gC Hj ?_ ?_<;>intro H
   .refine aa H λr35 q35 H=>nG (ca (hF:=K0.h q35)) ?_
    exact ai H
   exact ai H
  refine cC H ?_ ?_<;>intro H
  .exact aQ H
  cases H
  refine sV ?_
  refine am (bv (o:=3)) ?_
  refine am (de (o:=1)) ?_
  refine am (bv (o:=4)) ?_
  refine am (de (o:=1)) ?_
  refine am (bv (o:=5)) ?_
  refine am (de (o:=1)) ?_
  refine am (bv (o:=6)) ?_
  refine am (de (o:=1)) ?_
  exact wo
 refine aR H λH=>?_
 refine aa H λr36 q36 H=>nA (ca (hF:=K0.h q36)) ?_
 cases H
 exact dM⟩
end Go.AM
