/- A part. -/
import Derived.Test.YtgbcdgihmgapeaaGreatS80
set_option linter.unusedVariables false
set_option linter.unusedSimpArgs false
open Option renaming some->ς,none->ξ
open Bool renaming true->ζ,false->η
open True renaming intro->θ
namespace Go.AM
open Go.Proofs
open Tryz
attribute [local irreducible] AWN NS AWO AWR AWC DR DZ cB eZ iter
set_option maxRecDepth 100000
set_option maxHeartbeats 4000000
theorem zy37{a0:ab}{r:ab}(H:zy35 a0 []=ς r):FnV prog 6 [] [.v (.agg (kM [.f,.f,.f,.f,.f] (aS a0))),.v (.c (.d η (.l [])))] [] (.v (.agg (kM [.t,.n 210,.n 211,.n 212,.n 213] (aS r)))) [(210,.rown 45 14 (r.aj.map di) (.s 210)),(211,n87 r.an),(212,n55 r.aU),(213,n71 r.aZ)]:=by
 refine fV func6 ntmps6 ?_
 refine aa H λr1 q1 H=>sA (cvt η [] [(210,212),(211,213),(212,214),(213,215)] [] [(210,216)] 216 217 (Ld q1)) ?_
 refine aa H λv38 Hj H=>jB ⟨[(4,tP 211),(5,tP 217)],(oT [.t,.x 212,.y 213,.y 214,.y 215] 217 34 (aS v38)++[(211,.var 34 (kM [.z,.z,.z,.z,.z] (aS {dh with dV:=(⟨[]⟩:aV)})))]),218⟩ ?_ ?_
 .refine iT Hj (λq=>⟨[(1,.v (.c (.d η (.l [])))),(4,tP 211),(5,tP 217),(6,tI q.1)],(oT [.t,.x 212,.y 213,.y 214,.y 215] 217 34 (aS q.2)++[(211,.var 34 (kM [.z,.z,.z,.z,.z] (aS {dh with dV:=(⟨[]⟩:aV)})))]),218⟩) ?_ (by refine aK (wR 216 212) ?_;exact wo)
  rintro⟨v2,v13⟩ o H
  refine ad ?_
  refine aa H λv39 Hj H=>jR ⟨[(1,.v (.c (.d η (.l [])))),(4,tP 211),(5,tP 217),(6,tI v2),(18,tB v39)],(oT [.t,.x 212,.y 213,.y 214,.y 215] 217 34 (aS v13)++[(211,.var 34 (kM [.z,.z,.z,.z,.z] (aS {dh with dV:=(⟨[]⟩:aV)})))]),218⟩ ?_ ?_
  .exact az Hj
  refine cC H ?_ ?_<;>intro H
  .exact absurd H (by simp[ix])
  exact aE H
 cases H
 refine ci (wT 212 210) ?_
 refine ci (wS 213 211) ?_
 refine ci (wS 214 212) ?_
 refine ci (wS 215 213) ?_
 exact dK
end Go.AM
