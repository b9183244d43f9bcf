/- A part. -/
import Derived.Test.YtcnfbcpgepbnkaaGreatI81
set_option linter.unusedVariables false
set_option linter.unusedSimpArgs false
open Option renaming some->ς,none->ξ
open Bool renaming true->ζ,false->η
open True renaming intro->θ
namespace Go.AM
open Go.Proofs
open Tryz
attribute [local irreducible] AWN NS AWO AWR AWC DR DZ cp ec iter
set_option maxRecDepth 100000
set_option maxHeartbeats 4000000
def nT(a:ae):Laa:=oT [.w 194,.w 190,.w 191,.w 192,.w 193] 200 43 (c7 a)
theorem OF{a0:ae}{a1:aH}{r:ae}(H:yy a0 a1=ς r):FnV prog 112 (nT a0) [tP 200,.v (.agg (kM [.t] (jh a1)))] (nT r) (.tup []) []:=by
 refine fV func112 ntmps112 ?_
 refine cC H ?_ ?_<;>intro H
 .cases H
  exact ea
 refine Hn 0 17 0 [1,2,3,4,5,6,7,8,9,10,11] Try.follows (by kernel_rfl) (by kernel_rfl) rfl (by kernel_rfl) rfl rfl ?_
 refine wI ?_
 refine aa H λr1 q1 H=>zA (cu (hF:=yx q1)) ?_
 obtain⟨h,H⟩:=rq H
 refine wA (bdkT 211) ?_
 refine CR (ds:=[211]) (by kernel_rfl) (by kernel_rfl) rfl (by kernel_rfl) eG (yL rfl (apTt (enc:=aW) (ys:=a0.ax) (a:=r1) h)) eG rfl ?_
 refine wkb ?_
 refine wA (spx 100168) ?_
 cases H
 exact qT
theorem wd{a0:ae}{a1:Int}{a2:aK}{r:ae}(H:gE a0 a1 a2=ς r):FnV prog 108 (nT a0) [tP 200,tI a1,.v (.agg (kT [.k 180,.k 181,.k 182] (cd a2)))] (nT r) (.tup []) []:=by
 refine fV func108 ntmps108 ?_
 refine zI (List.range 9) ?_
 refine aa H λx1 hx1 H=>zA (xwT hx1) ?_
 refine zB eG (yL rfl (stT (enc:=aZ) (a':=a2.bC) hx1)) eG ?_
 refine aa H λv26 Hj H=>jB ⟨[],(nT v26),211⟩ ?_ ?_
 .refine iT Hj (λq=>⟨[(0,tP 200),(1,tI a1),(17,.v (.c (.d (.t 182) (.l (a2.dQ.map cb))))),(18,tI (a2.dQ.length:Int)),(19,tI q.1)],(nT q.2),211⟩) ?_ (by refine bv (wB 190 ((a0.aO.set (a1).toNat a2.bC).length)) ?_;exact wo)
  rintro⟨v2,v13⟩ o H
  refine ad ?_
  refine cC H ?_ ?_<;>intro H
  .refine aa H λx27 hx27 H=>nA (xdT (enc:=cb) hx27) ?_
   refine aa H λr28 q28 H=>sA (cvt ζ m4 [] m3 [] 212 212 (OF q28)) ?_
   exact aN H
  exact aE H
 cases H
 exact qT
theorem Ck{a0:ae}{a1:Int}{a2:List ar}{r:ae}(H:jE a0 a1 a2=ς r):FnV prog 111 (nT a0) [tP 200,tI a1,.v (.c (.d (.t 180) (.l (a2.map cb))))] (nT r) (.tup []) []:=by
 refine fV func111 ntmps111 ?_
 refine aa H λv25 Hj H=>jB ⟨[],(nT v25),210⟩ ?_ ?_
 .refine iT Hj (λq=>⟨[(0,tP 200),(1,tI a1),(8,.v (.c (.d (.t 180) (.l (a2.map cb))))),(9,tI (a2.length:Int)),(10,tI q.1)],(nT q.2),210⟩) ?_
  rintro⟨v1,v12⟩ o H
  refine ad ?_
  refine cC H ?_ ?_<;>intro H
  .refine aa H λx26 hx26 H=>nA (xdT (enc:=cb) hx26) ?_
   refine aa H λr27 q27 H=>sA (cvt ζ m4 [] m3 [] 211 211 (OF q27)) ?_
   exact aN H
  exact aE H
 cases H
 exact qT
end Go.AM
