/- A part. -/
import Derived.Test.YtbfpkbncbebapaaGreatI4
import Derived.Test.YtbfpkbncbebapaaGreatM1
import Derived.Test.YtbfpkbncbebapaaGreatS15
set_option linter.unusedVariables false
set_option linter.unusedSimpArgs false
open Option renaming bind->YL
open Int renaming tmod->YN
namespace Go.AM
open Go.Proofs
open Tryz
attribute [local irreducible] AWN NS AWO AWR AWC DR dQ gQ
set_option maxRecDepth 100000
set_option maxHeartbeats 40000000
def ki (r2:ab) (r3:Int) (r4:ab×Bool):Int->Option (cf (Int) (Bool))
 |v11=>bif ltB v11 (r2.aj.length:Int) then(YL (ix r2.aj v11) λx12=>YL (yP r2 v11) λr13=>bif eqB r13 (YN r3 2) then(YL (ix r2.aj v11) λx14=>YL (p9 x14) λr15=>YL (bif !eqB r15.bF 0 then(some true) else(bif !eqB r15.d9 0 then(some true) else(YL (ix r2.aj v11) λx17=>bif !eqB r15.aO x17.aO then(some true) else(YL (ix r2.aj v11) λx18=>YL (lX r15.aw x18.aw) λr19=>bif !r19 then(some true) else(YL (ix r2.aj v11) λx20=>some (!(eqB r15.bM.ax x20.bM.ax&&(eqB r15.bM.cH x20.bM.cH&&(eqB r15.bM.ed x20.bM.ed&&true))))))))) λ(v16:Bool)=>bif v16 then(dn (some false)) else(YL (ix r4.1.aj v11) λx21=>YL (kC x21 r15) λr22=>YL (bif !r22 then(some true) else(YL (uk r4.1 v11) λr24=>some (eqB r24 (YN r3 2)))) λ(v23:Bool)=>bif v23 then(dn (some false)) else(some (.next (WR (v11+1)))))) else(YL (ix r4.1.aj v11) λx25=>YL (kC x25 x12) λr26=>YL (bif !r26 then(some true) else(YL (uk r4.1 v11) λr28=>some (eqB r28 (YN r3 2)))) λ(v27:Bool)=>bif v27 then(dn (some false)) else(some (.next (WR (v11+1)))))) else(dn (YL (jm r4.1) λr29=>YL (bif r29 then(YL (HS r4.1) λr31=>some r31) else(some false)) λ(v30:Bool)=>some v30))
def mI (a0:List Int):Option Bool:=
 YL (VO a0) λr1=>bif r1 then(some true) else(YL (pV a0) λr2=>YL (lat a0 0) λr3=>YL (ky r2 {dN with aV:=11,cm:=YN r3 2}) λr4=>bif !r4.2 then(YL (pP r4.1 r2) λr5=>YL (bif r5 then(YL (kn r2.cq (YN r3 2)) λr7=>bif !r7 then(some true) else(YL (kn r2.cq (WR (1-(YN r3 2)))) λr8=>some (!r8))) else(some false)) λ(v6:Bool)=>some v6) else(YL (bif !eqB (r4.1.aj.length:Int) (r2.aj.length:Int) then(some true) else(YL (kc r4.1.cq (YN r3 2)) λr10=>some r10)) λ(v9:Bool)=>bif v9 then(some false) else(iter (ki r2 r3 r4) FU 0)))
theorem xM {a0:List Int} {r:Bool} (H:mI a0=some r):Fn prog 3 [aL (a0.map eU8)] [.c (.d (.b r))]:=by
 refine fI func3 ntmps3 ?_
 refine aa H λr1 q1 H=>nA (ca (hF:=VP q1)) ?_
 refine cC H ?_ ?_<;>intro H
 .exact ao H
 refine aa H λr2 q2 H=>nA (ca (hF:=D6 q2)) ?_
 refine aa H λr3 q3 H=>nA (ca (hF:=lat_c q3)) ?_
 refine nA (ir rfl rfl rfl (by decide)) ?_
 refine aa H λr4 q4 H=>sA (cwu [] [(210,1),(211,2),(212,3),(213,4)] 5 (yz q4)) ?_
 refine cC H ?_ ?_<;>intro H
 .refine aa H λr5 q5 H=>nA (ca (hF:=DH q5)) ?_
  refine aa H λv6 Hj H=>jR ⟨[(2,tB v6)],[],0⟩ ?_ ?_
  .refine gC Hj ?_ ?_<;>intro H
   .refine aa H λr7 q7 H=>nG (ca (hF:=oy q7)) ?_
    refine gC H ?_ ?_<;>intro H
    .exact ai H
    refine aa H λr8 q8 H=>nG (ca (hF:=oy q8)) ?_
    exact ai H
   exact ai H
  exact ao H
 refine aa H λv9 Hj H=>jR ⟨[(3,tP 0),(4,tI (YN r3 2)),(5,tP 5),(55,tB v9)],(oM [.t,.w 1,.w 2,.w 3,.w 4] 5 34 (aJ r4.1)++[(0,.var 34 (kM [.t,.t,.t,.t,.t] (aJ r2)))]),6⟩ ?_ ?_
 .refine gC Hj ?_ ?_<;>intro H
  .exact ai H
  refine aa H λr10 q10 H=>nG (ca (hF:=sY q10)) ?_
  exact ai H
 refine cC H ?_ ?_<;>intro H
 .exact ao H
 refine iT H (λq=>⟨[(3,tP 0),(4,tI (YN r3 2)),(5,tP 5),(7,tI q)],(oM [.t,.w 1,.w 2,.w 3,.w 4] 5 34 (aJ r4.1)++[(0,.var 34 (kM [.t,.t,.t,.t,.t] (aJ r2)))]),6⟩) ?_
 rintro v11 o H
 try dsimp only
 refine wI ?_
 refine cC H ?_ ?_<;>intro H
 .refine aa H λx12 hx12 H=>nA (xdT (enc:=bB) hx12) ?_
  refine aa H λr13 q13 H=>nA (ca (hF:=HX q13)) ?_
  refine cC H ?_ ?_<;>intro H
  .refine aa H λx14 hx14 H=>nA (xdT (enc:=bB) hx14) ?_
   refine aa H λr15 q15 H=>nA (ca (hF:=Bz q15)) ?_
   refine dI ?_
   refine aa H λv16 Hj H=>et ⟨[(3,tP 0),(4,tI (YN r3 2)),(5,tP 5),(7,tI v11),(8,tP 6),(120,tB v16)],(oM [.t,.w 1,.w 2,.w 3,.w 4] 5 34 (aJ r4.1)++(oM [.w 7,.w 8,.w 9] 6 69 (b8 r15)++[(0,.var 34 (kM [.t,.t,.t,.t,.t] (aJ r2)))])),10⟩ ?_ ?_
   .have H:=Hj
    refine wI ?_
    refine dC H ?_ ?_<;>intro H
    .refine wI ?_
     exact ai H
    refine dC H ?_ ?_<;>intro H
    .refine wI ?_
     exact ai H
    refine aa H λx17 hx17 H=>dG (xdT (enc:=bB) hx17) ?_
    refine dC H ?_ ?_<;>intro H
    .refine wI ?_
     exact ai H
    refine aa H λx18 hx18 H=>dG (xdT (enc:=bB) hx18) ?_
    refine aa H λr19 q19 H=>dG (ca (hF:=yb q19)) ?_
    refine dC H ?_ ?_<;>intro H
    .refine wI ?_
     exact ai H
    refine aa H λx20 hx20 H=>dG (xdT (enc:=bB) hx20) ?_
    refine wI ?_
    exact ai H
   refine wI ?_
   refine cC H ?_ ?_<;>intro H
   .refine wI ?_
    obtain⟨r0,Hd,rfl⟩:=dnE H
    refine f6 (λhq=>?_)
    have H:=Hd.trans (congrArg some hq)
    refine wI ?_
    exact ao H
   refine dI ?_
   refine aa H λx21 hx21 H=>dA (xwT hx21) ?_
   refine dA (oea (he:=gm _ hx21)) ?_
   refine aa H λr22 q22 H=>dA (ca (hF:=qC q22)) ?_
   refine aa H λv23 Hj H=>et ⟨[(3,tP 0),(4,tI (YN r3 2)),(5,tP 5),(7,tI v11),(135,tB v23)],(oM [.t,.w 1,.w 2,.w 3,.w 4] 5 34 (aJ r4.1)++[(0,.var 34 (kM [.t,.t,.t,.t,.t] (aJ r2)))]),6⟩ ?_ ?_
   .have H:=Hj
    refine wI ?_
    refine dC H ?_ ?_<;>intro H
    .refine wI ?_
     exact ai H
    refine aa H λr24 q24 H=>dG (ca (hF:=zF q24)) ?_
    refine wI ?_
    exact ai H
   refine wI ?_
   refine cC H ?_ ?_<;>intro H
   .refine wI ?_
    obtain⟨r0,Hd,rfl⟩:=dnE H
    refine f6 (λhq=>?_)
    have H:=Hd.trans (congrArg some hq)
    refine wI ?_
    exact ao H
   refine wI ?_
   cases H
   refine dy ?_
   exact wo
  refine dI ?_
  refine aa H λx25 hx25 H=>dA (xwT hx25) ?_
  refine dA (oea (he:=gm _ hx25)) ?_
  refine aa H λr26 q26 H=>dA (ca (hF:=qC q26)) ?_
  refine aa H λv27 Hj H=>et ⟨[(3,tP 0),(4,tI (YN r3 2)),(5,tP 5),(7,tI v11),(135,tB v27)],(oM [.t,.w 1,.w 2,.w 3,.w 4] 5 34 (aJ r4.1)++[(0,.var 34 (kM [.t,.t,.t,.t,.t] (aJ r2)))]),6⟩ ?_ ?_
  .have H:=Hj
   refine wI ?_
   refine dC H ?_ ?_<;>intro H
   .refine wI ?_
    exact ai H
   refine aa H λr28 q28 H=>dG (ca (hF:=zF q28)) ?_
   refine wI ?_
   exact ai H
  refine wI ?_
  refine cC H ?_ ?_<;>intro H
  .refine wI ?_
   obtain⟨r0,Hd,rfl⟩:=dnE H
   refine f6 (λhq=>?_)
   have H:=Hd.trans (congrArg some hq)
   refine wI ?_
   exact ao H
  refine wI ?_
  cases H
  refine dy ?_
  exact wo
 obtain⟨r0,Hd,rfl⟩:=dnE H
 refine dF (λhq=>?_)
 have H:=Hd.trans (congrArg some hq)
 refine wI ?_
 refine aa H λr29 q29 H=>nA (ca (hF:=rA q29)) ?_
 refine aa H λv30 Hj H=>jR ⟨[(2,tB v30)],[],0⟩ ?_ ?_
 .refine gC Hj ?_ ?_<;>intro H
  .refine aa H λr31 q31 H=>nG (ca (hF:=RS q31)) ?_
   exact ai H
  exact ai H
 exact ao H
end Go.AM
