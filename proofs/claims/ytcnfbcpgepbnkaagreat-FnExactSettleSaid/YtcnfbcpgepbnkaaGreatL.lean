/- A part. -/
import Derived.Test.YtcnfbcpgepbnkaaGreatM82
import Derived.Test.YtcnfbcpgepbnkaaGreatM0
import Derived.Test.YtcnfbcpgepbnkaaGreatS12
set_option linter.unusedVariables false
set_option linter.unusedSimpArgs false
open Option renaming some->ς,none->ξ
open Bool renaming true->ζ,false->η
open True renaming intro->θ
open Option renaming bind->aeP
namespace Go.AM
open Go.Proofs
open Tryz
attribute [local irreducible] AWN NS AWO AWR AWC DR DZ cO eB iter
set_option maxRecDepth 100000
set_option maxHeartbeats 4000000
def tH(a0:ae)(a1:Int):Option Bool:=
 aeP (pY a0 1048576) λr1=>cond (ltB r1 0) (ς ζ) (aeP (fc a0) λr2=>aeP (xX r2 a1) λr3=>
 aeP (fc a0) λr4=>aeP (uQ r4 a1) λr5=>
 aeP (fa r5 r3) λb6=>cond (!b6) (ς η) (aeP (fc a0) λr7=>aeP (fa r4 r7) λb8=>cond (!b8) (ς η) (aeP (jG r4 1) λk=>
 aeP (cond (ltB k 0) (ς ζ) (aeP (fa r5 r3) λb=>ς (!b))) λc=>cond c (ς η) (aeP (f7 r5 1) λ(m,g)=>
 aeP (gT g 1) λq=>cond (ltB q 0) (ς η) (cond (!eqB q m) (ς η) (aeP (fc a0) λr8=>aeP (uQ r8 a1) λr9=>aeP (fa r9 r3) λb10=>cond (!b10) (ς η) (aeP (gT g 1) λq2=>cond (ltB q2 0) (ς η) (cond (!eqB q2 m) (ς η) (ς ζ)))))))))
theorem Et{a0:ae}{a1:Int}{r:Bool}(H:tH a0 a1=ς r):Fn prog 5 [.agg (eC a0),aI a1] [.c (.d (.b r))]:=by
 refine fI func5 ntmps5 ?_
 refine aa H λr1 hr1 H=>nA (ca (hF:=xI.h hr1)) ?_
 refine cC H ?_ ?_<;>intro H
 .exact ao H
 refine aa H λr2 hr2 H=>nA (ca (hF:=eU.h hr2)) ?_
 refine aa H λr3 hr3 H=>cd (ez 1) ?_
 refine cd (eD 1) ?_
 refine cd (ez 2) ?_
 refine cd (eD 2) ?_
 refine cd (ez 3) ?_
 refine cd (eD 3) ?_
 refine cd (ez 4) ?_
 refine cd (eD 4) ?_
 refine cd (ez 5) ?_
 refine cd (eD 5) ?_
 refine sA (cvt η [] [(210,6),(211,7),(212,8),(213,9)] [] [] 10 10 (VT.h hr3)) ?_
 refine aa H λr4 hr4 H=>sA (car rfl rfl rfl (eU.h hr4) trivial rfl ⟨by first|rfl|exact lm _,by first|rfl|exact lm _,by first|rfl|exact lm _,by first|rfl|exact lm _,by first|rfl|exact lm _,θ⟩ rfl rfl) ?_
 refine aa H λr5 hr5 H=>nA (cu (hF:=AE hr5)) ?_
 refine aa H λb6 hb6 H=>nA (ca (hF:=eT.h hb6)) ?_
 refine cC H ?_ ?_<;>intro H
 .exact ao H
 refine aa H λr7 hr7 H=>dI ?_
 refine dA (ca (hF:=eU.h hr7)) ?_
 refine aa H λb8 hb8 H=>dA (ca (hF:=eT.h hb8)) ?_
 refine cC H ?_ ?_<;>intro H
 .exact ao H
 refine aa H λk hk H=>cd (Jn 12) ?_
 refine sA (cm (l:=11) rfl rfl (pU hk) rfl rfl rfl) ?_
 refine aa H λc hc H=>jR ⟨[(1,tI a1),(2,tP 0),(6,tP 10),(8,tP 18),(46,tB c)],(0,.var 32 (kM [.f,.f,.f,.f,.f] (cX a0)))::(oM [.t,.n 6,.n 7,.n 8,.n 9] 10 43 (cX r3)++oT [.w 13,.w 14,.w 15,.w 16,.w 17] 18 43 (cX r5)),19⟩ ?_ ?_
 .refine gC hc ?_ ?_<;>intro H
  .exact ai H
  refine aa H λb hb H=>nG (ca (hF:=eT.h hb)) ?_
  exact ai H
 refine cC H ?_ ?_<;>intro H
 .exact ao H
 obtain⟨⟨m,g⟩,hg,H⟩:=ob H
 obtain⟨yc,yd,ys,ya,yf,rfl,l1,l2,l3,l4,l5⟩:=rE hg
 refine sA (cvt ζ [(200,13),(201,14),(202,15),(203,16),(204,17)] [] [(200,13),(201,14),(202,15),(203,16),(204,17)] [] 19 19 (rD hg)) ?_
 refine aa H λq hq H=>nA (ca (hF:=jF.h hq) (he:=by exact⟨by simp[l1],by simp[l2],by simp[l3],by simp[l4],by simp[l5],θ⟩)) ?_
 refine cC H ?_ ?_<;>intro H
 .exact ao H
 refine cC H ?_ ?_<;>intro H
 .exact ao H
 refine aa H λr8 hr8 H=>nA (ca (hF:=eU.h hr8)) ?_
 refine aa H λr9 hr9 H=>nA (cu (hF:=AE hr9)) ?_
 refine aa H λb10 hb10 H=>nA (ca (hF:=eT.h hb10)) ?_
 refine cC H ?_ ?_<;>intro H
 .exact ao H
 refine aa H λq2 hq2 H=>nA (ca (hF:=jF.h hq2) (he:=by exact⟨by simp[l1],by simp[l2],by simp[l3],by simp[l4],by simp[l5],θ⟩)) ?_
 refine cC H ?_ ?_<;>intro H
 .exact ao H
 refine cC H ?_ ?_<;>intro H
 .exact ao H
 exact ao H
def vH(a0:ae):Option Bool:=
 aeP (pY a0 1048576) λr1=>cond (ltB r1 0) (ς ζ) (aeP (fc a0) λr2=>aeP (MN r2) λr3=>
 aeP (fc a0) λr4=>aeP (HF r4) λr5=>
 aeP (fa r5 r3) λb6=>cond (!b6) (ς η) (aeP (fc a0) λr7=>aeP (fa r4 r7) λb8=>cond (!b8) (ς η) (aeP (jG r4 1) λk=>
 aeP (cond (ltB k 0) (ς ζ) (aeP (fa r5 r3) λb=>ς (!b))) λc=>cond c (ς η) (aeP (f7 r5 1) λ(m,g)=>
 aeP (gT g 1) λq=>cond (ltB q 0) (ς η) (cond (!eqB q m) (ς η) (aeP (fc a0) λr8=>aeP (HF r8) λr9=>aeP (fa r9 r3) λb10=>cond (!b10) (ς η) (aeP (gT g 1) λq2=>cond (ltB q2 0) (ς η) (cond (!eqB q2 m) (ς η) (ς ζ)))))))))
theorem FO{a0:ae}{r:Bool}(H:vH a0=ς r):Fn prog 4 [.agg (eC a0)] [.c (.d (.b r))]:=by
 refine fI func4 ntmps4 ?_
 refine aa H λr1 hr1 H=>nA (ca (hF:=xI.h hr1)) ?_
 refine cC H ?_ ?_<;>intro H
 .exact ao H
 refine aa H λr2 hr2 H=>nA (ca (hF:=eU.h hr2)) ?_
 refine aa H λr3 hr3 H=>cd (ez 1) ?_
 refine cd (eD 1) ?_
 refine cd (ez 2) ?_
 refine cd (eD 2) ?_
 refine cd (ez 3) ?_
 refine cd (eD 3) ?_
 refine cd (ez 4) ?_
 refine cd (eD 4) ?_
 refine cd (ez 5) ?_
 refine cd (eD 5) ?_
 refine sA (cvt η [] [(210,6),(211,7),(212,8),(213,9)] [] [] 10 10 (ZC.h hr3)) ?_
 refine aa H λr4 hr4 H=>sA (car rfl rfl rfl (eU.h hr4) trivial rfl ⟨by first|rfl|exact lm _,by first|rfl|exact lm _,by first|rfl|exact lm _,by first|rfl|exact lm _,by first|rfl|exact lm _,θ⟩ rfl rfl) ?_
 refine aa H λr5 hr5 H=>nA (cu (hF:=N1 hr5)) ?_
 refine aa H λb6 hb6 H=>nA (ca (hF:=eT.h hb6)) ?_
 refine cC H ?_ ?_<;>intro H
 .exact ao H
 refine aa H λr7 hr7 H=>dI ?_
 refine dA (ca (hF:=eU.h hr7)) ?_
 refine aa H λb8 hb8 H=>dA (ca (hF:=eT.h hb8)) ?_
 refine cC H ?_ ?_<;>intro H
 .exact ao H
 refine aa H λk hk H=>cd (Jn 12) ?_
 refine sA (cm (l:=11) rfl rfl (pU hk) rfl rfl rfl) ?_
 refine aa H λc hc H=>jR ⟨[(1,tP 0),(4,tP 10),(6,tP 18),(42,tB c)],(0,.var 32 (kM [.f,.f,.f,.f,.f] (cX a0)))::(oM [.t,.n 6,.n 7,.n 8,.n 9] 10 43 (cX r3)++oT [.w 13,.w 14,.w 15,.w 16,.w 17] 18 43 (cX r5)),19⟩ ?_ ?_
 .refine gC hc ?_ ?_<;>intro H
  .exact ai H
  refine aa H λb hb H=>nG (ca (hF:=eT.h hb)) ?_
  exact ai H
 refine cC H ?_ ?_<;>intro H
 .exact ao H
 obtain⟨⟨m,g⟩,hg,H⟩:=ob H
 obtain⟨yc,yd,ys,ya,yf,rfl,l1,l2,l3,l4,l5⟩:=rE hg
 refine sA (cvt ζ [(200,13),(201,14),(202,15),(203,16),(204,17)] [] [(200,13),(201,14),(202,15),(203,16),(204,17)] [] 19 19 (rD hg)) ?_
 refine aa H λq hq H=>nA (ca (hF:=jF.h hq) (he:=by exact⟨by simp[l1],by simp[l2],by simp[l3],by simp[l4],by simp[l5],θ⟩)) ?_
 refine cC H ?_ ?_<;>intro H
 .exact ao H
 refine cC H ?_ ?_<;>intro H
 .exact ao H
 refine aa H λr8 hr8 H=>nA (ca (hF:=eU.h hr8)) ?_
 refine aa H λr9 hr9 H=>nA (cu (hF:=N1 hr9)) ?_
 refine aa H λb10 hb10 H=>nA (ca (hF:=eT.h hb10)) ?_
 refine cC H ?_ ?_<;>intro H
 .exact ao H
 refine aa H λq2 hq2 H=>nA (ca (hF:=jF.h hq2) (he:=by exact⟨by simp[l1],by simp[l2],by simp[l3],by simp[l4],by simp[l5],θ⟩)) ?_
 refine cC H ?_ ?_<;>intro H
 .exact ao H
 refine cC H ?_ ?_<;>intro H
 .exact ao H
 exact ao H
def tJ(a0:ae):Option Bool:=
 aeP (pY a0 1048576) λr1=>cond (ltB r1 0) (ς ζ) (aeP (fc a0) λr2=>aeP (GG r2) λr3=>
 aeP (fc a0) λr4=>aeP (CY r4) λr5=>
 aeP (fa r5 r3) λb6=>cond (!b6) (ς η) (aeP (fc a0) λr7=>aeP (fa r4 r7) λb8=>cond (!b8) (ς η) (aeP (jG r4 1) λk=>
 aeP (cond (ltB k 0) (ς ζ) (aeP (fa r5 r3) λb=>ς (!b))) λc=>cond c (ς η) (aeP (f7 r5 1) λ(m,g)=>
 aeP (gT g 1) λq=>cond (ltB q 0) (ς η) (cond (!eqB q m) (ς η) (aeP (fc a0) λr8=>aeP (CY r8) λr9=>aeP (fa r9 r3) λb10=>cond (!b10) (ς η) (aeP (gT g 1) λq2=>cond (ltB q2 0) (ς η) (cond (!eqB q2 m) (ς η) (ς ζ)))))))))
theorem Eu{a0:ae}{r:Bool}(H:tJ a0=ς r):Fn prog 6 [.agg (eC a0)] [.c (.d (.b r))]:=by
 refine fI func6 ntmps6 ?_
 refine aa H λr1 hr1 H=>nA (ca (hF:=xI.h hr1)) ?_
 refine cC H ?_ ?_<;>intro H
 .exact ao H
 refine aa H λr2 hr2 H=>nA (ca (hF:=eU.h hr2)) ?_
 refine aa H λr3 hr3 H=>cd (ez 1) ?_
 refine cd (eD 1) ?_
 refine cd (ez 2) ?_
 refine cd (eD 2) ?_
 refine cd (ez 3) ?_
 refine cd (eD 3) ?_
 refine cd (ez 4) ?_
 refine cd (eD 4) ?_
 refine cd (ez 5) ?_
 refine cd (eD 5) ?_
 refine sA (cvt η [] [(210,6),(211,7),(212,8),(213,9)] [] [] 10 10 (VU.h hr3)) ?_
 refine aa H λr4 hr4 H=>sA (car rfl rfl rfl (eU.h hr4) trivial rfl ⟨by first|rfl|exact lm _,by first|rfl|exact lm _,by first|rfl|exact lm _,by first|rfl|exact lm _,by first|rfl|exact lm _,θ⟩ rfl rfl) ?_
 refine aa H λr5 hr5 H=>nA (cu (hF:=KA hr5)) ?_
 refine aa H λb6 hb6 H=>nA (ca (hF:=eT.h hb6)) ?_
 refine cC H ?_ ?_<;>intro H
 .exact ao H
 refine aa H λr7 hr7 H=>dI ?_
 refine dA (ca (hF:=eU.h hr7)) ?_
 refine aa H λb8 hb8 H=>dA (ca (hF:=eT.h hb8)) ?_
 refine cC H ?_ ?_<;>intro H
 .exact ao H
 refine aa H λk hk H=>cd (Jn 12) ?_
 refine sA (cm (l:=11) rfl rfl (pU hk) rfl rfl rfl) ?_
 refine aa H λc hc H=>jR ⟨[(1,tP 0),(4,tP 10),(6,tP 18),(42,tB c)],(0,.var 32 (kM [.f,.f,.f,.f,.f] (cX a0)))::(oM [.t,.n 6,.n 7,.n 8,.n 9] 10 43 (cX r3)++oT [.w 13,.w 14,.w 15,.w 16,.w 17] 18 43 (cX r5)),19⟩ ?_ ?_
 .refine gC hc ?_ ?_<;>intro H
  .exact ai H
  refine aa H λb hb H=>nG (ca (hF:=eT.h hb)) ?_
  exact ai H
 refine cC H ?_ ?_<;>intro H
 .exact ao H
 obtain⟨⟨m,g⟩,hg,H⟩:=ob H
 obtain⟨yc,yd,ys,ya,yf,rfl,l1,l2,l3,l4,l5⟩:=rE hg
 refine sA (cvt ζ [(200,13),(201,14),(202,15),(203,16),(204,17)] [] [(200,13),(201,14),(202,15),(203,16),(204,17)] [] 19 19 (rD hg)) ?_
 refine aa H λq hq H=>nA (ca (hF:=jF.h hq) (he:=by exact⟨by simp[l1],by simp[l2],by simp[l3],by simp[l4],by simp[l5],θ⟩)) ?_
 refine cC H ?_ ?_<;>intro H
 .exact ao H
 refine cC H ?_ ?_<;>intro H
 .exact ao H
 refine aa H λr8 hr8 H=>nA (ca (hF:=eU.h hr8)) ?_
 refine aa H λr9 hr9 H=>nA (cu (hF:=KA hr9)) ?_
 refine aa H λb10 hb10 H=>nA (ca (hF:=eT.h hb10)) ?_
 refine cC H ?_ ?_<;>intro H
 .exact ao H
 refine aa H λq2 hq2 H=>nA (ca (hF:=jF.h hq2) (he:=by exact⟨by simp[l1],by simp[l2],by simp[l3],by simp[l4],by simp[l5],θ⟩)) ?_
 refine cC H ?_ ?_<;>intro H
 .exact ao H
 refine cC H ?_ ?_<;>intro H
 .exact ao H
 exact ao H
end Go.AM
