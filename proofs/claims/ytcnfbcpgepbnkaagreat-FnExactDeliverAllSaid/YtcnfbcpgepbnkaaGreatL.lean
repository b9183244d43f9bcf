/- A part. -/
import Derived.Test.YtcnfbcpgepbnkaaGreatM82
import Derived.Test.YtcnfbcpgepbnkaaGreatM0
import Derived.Test.YtcnfbcpgepbnkaaGreatS11
set_option linter.unusedVariables false
set_option linter.unusedSimpArgs false
open Option renaming some->ς,none->ξ
open Bool renaming true->ζ,false->η
open True renaming intro->θ
open Option renaming bind->abX
namespace Go.AM
open Go.Proofs
open Tryz
attribute [local irreducible] AWN NS AWO AWR AWC DR DZ cp ec iter
set_option maxRecDepth 100000
set_option maxHeartbeats 4000000
def mj(a0:ae)(a1:Int):Option Bool:=
 abX (uR a0 1048576) λr1=>cond (ltB r1 0) (ς ζ) (abX (mn a0) λr2=>abX (sN r2 a1) λr3=>
 abX (mn a0) λr4=>abX (mw r4 a1) λr5=>
 abX (ml r5 r3) λb6=>cond (!b6) (ς η) (abX (mn a0) λr7=>abX (ml r4 r7) λb8=>cond (!b8) (ς η) (abX (nH r4 1) λk=>
 abX (cond (ltB k 0) (ς ζ) (abX (ml r5 r3) λb=>ς (!b))) λc=>cond c (ς η) (abX (gS r5 1) λ(m,g)=>
 abX (nz g 1) λq=>cond (ltB q 0) (ς η) (cond (!eqB q m) (ς η) (abX (mn a0) λr8=>abX (mw r8 a1) λr9=>abX (ml r9 r3) λb10=>cond (!b10) (ς η) (abX (nz g 1) λq2=>cond (ltB q2 0) (ς η) (cond (!eqB q2 m) (ς η) (ς ζ)))))))))
theorem wh{a0:ae}{a1:Int}{r:Bool}(H:mj a0 a1=ς r):Fn prog 3 [.agg (ev a0),aI a1] [.c (.d (.b r))]:=by
 refine fI func3 ntmps3 ?_
 refine aa H λr1 hr1 H=>nA (ca (hF:=H8.h hr1)) ?_
 refine cC H ?_ ?_<;>intro H
 .exact ao H
 refine aa H λr2 hr2 H=>nA (ca (hF:=qp.h hr2)) ?_
 refine aa H λr3 hr3 H=>di (kD 1) ?_
 refine di (oW 1) ?_
 refine di (kD 2) ?_
 refine di (oW 2) ?_
 refine di (kD 3) ?_
 refine di (oW 3) ?_
 refine di (kD 4) ?_
 refine di (oW 4) ?_
 refine di (kD 5) ?_
 refine di (oW 5) ?_
 refine sA (cvt η [] [(210,6),(211,7),(212,8),(213,9)] [] [] 10 10 (FX.h hr3)) ?_
 refine aa H λr4 hr4 H=>sA (car rfl rfl rfl (qp.h hr4) trivial rfl ⟨by first|rfl|exact lm _,by first|rfl|exact lm _,by first|rfl|exact lm _,by first|rfl|exact lm _,by first|rfl|exact lm _,θ⟩ rfl rfl) ?_
 refine aa H λr5 hr5 H=>nA (cu (hF:=yq hr5)) ?_
 refine aa H λb6 hb6 H=>nA (ca (hF:=qm.h hb6)) ?_
 refine cC H ?_ ?_<;>intro H
 .exact ao H
 refine aa H λr7 hr7 H=>dI ?_
 refine dA (ca (hF:=qp.h hr7)) ?_
 refine aa H λb8 hb8 H=>dA (ca (hF:=qm.h hb8)) ?_
 refine cC H ?_ ?_<;>intro H
 .exact ao H
 refine aa H λk hk H=>di (We 12) ?_
 refine sA (cm (l:=11) rfl rfl (Bs hk) rfl rfl rfl) ?_
 refine aa H λc hc H=>jR ⟨[(1,tI a1),(2,tP 0),(6,tP 10),(8,tP 18),(46,tB c)],(0,.var 32 (kM [.f,.f,.f,.f,.f] (c7 a0)))::(oM [.t,.n 6,.n 7,.n 8,.n 9] 10 43 (c7 r3)++oT [.w 13,.w 14,.w 15,.w 16,.w 17] 18 43 (c7 r5)),19⟩ ?_ ?_
 .refine gC hc ?_ ?_<;>intro H
  .exact ai H
  refine aa H λb hb H=>nG (ca (hF:=qm.h hb)) ?_
  exact ai H
 refine cC H ?_ ?_<;>intro H
 .exact ao H
 obtain⟨⟨m,g⟩,hg,H⟩:=ob H
 obtain⟨yc,yd,ys,ya,yf,rfl,l1,l2,l3,l4,l5⟩:=Cq hg
 refine sA (cvt ζ [(200,13),(201,14),(202,15),(203,16),(204,17)] [] [(200,13),(201,14),(202,15),(203,16),(204,17)] [] 19 19 (Co hg)) ?_
 refine aa H λq hq H=>nA (ca (hF:=wm.h hq) (he:=by exact⟨by simp[l1],by simp[l2],by simp[l3],by simp[l4],by simp[l5],θ⟩)) ?_
 refine cC H ?_ ?_<;>intro H
 .exact ao H
 refine cC H ?_ ?_<;>intro H
 .exact ao H
 refine aa H λr8 hr8 H=>nA (ca (hF:=qp.h hr8)) ?_
 refine aa H λr9 hr9 H=>nA (cu (hF:=yq hr9)) ?_
 refine aa H λb10 hb10 H=>nA (ca (hF:=qm.h hb10)) ?_
 refine cC H ?_ ?_<;>intro H
 .exact ao H
 refine aa H λq2 hq2 H=>nA (ca (hF:=wm.h hq2) (he:=by exact⟨by simp[l1],by simp[l2],by simp[l3],by simp[l4],by simp[l5],θ⟩)) ?_
 refine cC H ?_ ?_<;>intro H
 .exact ao H
 refine cC H ?_ ?_<;>intro H
 .exact ao H
 exact ao H
end Go.AM
