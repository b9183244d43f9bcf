/- A part. -/
import Derived.Test.YtcnfbcpgepbnkaaGreatI81
set_option linter.unusedVariables false
set_option linter.unusedSimpArgs false
open Option renaming some->ς,none->ξ
open Bool renaming true->ζ,false->η
open True renaming intro->θ
namespace Go.AM
open Go.Proofs
open Tryz
attribute [local irreducible] AWN NS AWO AWR AWC DR DZ cO eB iter
set_option maxRecDepth 100000
set_option maxHeartbeats 4000000
def nT(a:ae):Laa:=oT [.w 194,.w 190,.w 191,.w 192,.w 193] 200 43 (cX a)
theorem Gq{a0:ae}{a1:a9}{r:ae}(H:yu a0 a1=ς r):FnV prog 112 (nT a0) [tP 200,.v (.agg (kM [.t] (ox a1)))] (nT r) (.tup []) []:=by
 refine fV func112 ntmps112 ?_
 refine cC H ?_ ?_<;>intro H
 .cases H
  exact eo
 refine R8 0 17 0 [1,2,3,4,5,6,7,8,9,10,11] Try.follows (by kernel_rfl) (by kernel_rfl) rfl (by kernel_rfl) rfl rfl ?_
 refine wI ?_
 refine aa H λr1 q1 H=>zA (cu (hF:=Bq q1)) ?_
 obtain⟨h,H⟩:=rq H
 refine wA (bdkT 211) ?_
 refine uE (ds:=[211]) (by kernel_rfl) (by kernel_rfl) rfl (by kernel_rfl) dH (tj rfl (apTt (enc:=bA) (ys:=a0.aJ) (a:=r1) h)) dH rfl ?_
 refine wkb ?_
 refine wA (spx 100168) ?_
 cases H
 exact tw
theorem tF{a0:ae}{a1:Int}{a2:aZ}{r:ae}(H:iL a0 a1 a2=ς r):FnV prog 108 (nT a0) [tP 200,tI a1,.v (.agg (kT [.k 180,.k 181,.k 182] (cU a2)))] (nT r) (.tup []) []:=by
 refine fV func108 ntmps108 ?_
 refine zI (List.range 9) ?_
 refine aa H λx1 hx1 H=>zA (xwT hx1) ?_
 refine zB dH (tj rfl (stT (enc:=bG) (a':=a2.bS) hx1)) dH ?_
 refine aa H λv26 Hj H=>jB ⟨[],(nT v26),211⟩ ?_ ?_
 .refine iT Hj (λq=>⟨[(0,tP 200),(1,tI a1),(17,.v (.c (.d (.t 182) (.l (a2.dV.map cP))))),(18,tI (a2.dV.length:Int)),(19,tI q.1)],(nT q.2),211⟩) ?_ (by refine aK (wB 190 ((a0.aH.set (a1).toNat a2.bS).length)) ?_;exact wo)
  rintro⟨v2,v13⟩ o H
  refine ad ?_
  refine cC H ?_ ?_<;>intro H
  .refine aa H λx27 hx27 H=>nA (xdT (enc:=cP) hx27) ?_
   refine aa H λr28 q28 H=>sA (cvt ζ m4 [] m3 [] 212 212 (Gq q28)) ?_
   exact aN H
  exact aE H
 cases H
 exact tw
theorem FM{a0:ae}{a1:Int}{a2:List aD}{r:ae}(H:je a0 a1 a2=ς r):FnV prog 111 (nT a0) [tP 200,tI a1,.v (.c (.d (.t 180) (.l (a2.map cP))))] (nT r) (.tup []) []:=by
 refine fV func111 ntmps111 ?_
 refine aa H λv25 Hj H=>jB ⟨[],(nT v25),210⟩ ?_ ?_
 .refine iT Hj (λq=>⟨[(0,tP 200),(1,tI a1),(8,.v (.c (.d (.t 180) (.l (a2.map cP))))),(9,tI (a2.length:Int)),(10,tI q.1)],(nT q.2),210⟩) ?_
  rintro⟨v1,v12⟩ o H
  refine ad ?_
  refine cC H ?_ ?_<;>intro H
  .refine aa H λx26 hx26 H=>nA (xdT (enc:=cP) hx26) ?_
   refine aa H λr27 q27 H=>sA (cvt ζ m4 [] m3 [] 211 211 (Gq q27)) ?_
   exact aN H
  exact aE H
 cases H
 exact tw
end Go.AM
