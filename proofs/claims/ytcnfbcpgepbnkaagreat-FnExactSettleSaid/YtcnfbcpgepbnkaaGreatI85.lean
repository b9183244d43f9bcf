/- A part. -/
import Derived.Test.YtcnfbcpgepbnkaaGreatI84
set_option linter.unusedVariables false
set_option linter.unusedSimpArgs false
open Option renaming some->ς,none->ξ
open Bool renaming true->ζ,false->η
open True renaming intro->θ
namespace Go.AM
open Go.Proofs
open Tryz
attribute [local irreducible] AWN NS AWO AWR AWC DR DZ cO eB iter
set_option maxRecDepth 100000
set_option maxHeartbeats 4000000
theorem Qu{a0:ae}{a1:Int}{r:ae}(H:C0 a0 a1=ς r):FnV prog 89 (nT a0) [tP 200,tI a1] (nT r) (.tup []) []:=by
 refine fV func89 ntmps89 ?_
 refine aa H λr1 q1 H=>sA (cvt ζ m4 [] m3 [] 210 210 (JM q1)) ?_
 refine dI ?_
 refine aa H λr2 q2 H=>dA (ca (hF:=N0.h q2)) ?_
 refine wI ?_
 refine aa H λv13 Hj H=>jA ⟨[],(nT v13),211⟩ ?_ ?_
 .refine cC Hj ?_ ?_<;>intro H
  .exact ai H
  refine aa H λv14 Hj H=>jR ⟨[(0,tP 200),(4,tP 210),(5,tI r1.1.bS),(40,tB v14)],(nT r1.2++[(210,.var 152 (kT [.s 193] (ox r1.1)))]),211⟩ ?_ ?_
  .exact az Hj
  refine aa H λv25 Hj H=>jA ⟨[],(nT v25),211⟩ ?_ ?_
  .refine cC Hj ?_ ?_<;>intro H
   .exact ai H
   refine aa H λv36 Hj H=>jA ⟨[],(nT v36),211⟩ ?_ ?_
   .refine cC Hj ?_ ?_<;>intro H
    .refine zI (List.range 12) ?_
     refine aa H λx37 hx37 H=>zA (xwT hx37) ?_
     refine zA (oea (he:=fK _ hx37)) ?_
     refine aa H λr38 q38 H=>zA (cu (hF:=En q38)) ?_
     refine wA (spx 100216) ?_
     refine zI (List.range 9) ?_
     refine aa H λx39 hx39 H=>zA (xwT hx39) ?_
     refine zB (aK (eE 211) (aK (eE 212) (eE 213))) (tj rfl (stT (enc:=aM) (a':=r38.aX) hx39)) dH ?_
     refine aa H λr40 q40 H=>cd (eE 214) ?_
     refine cd (wB 191 ((r1.2.aT.set (r1.1.bS).toNat r38.aX).length)) ?_
     refine sA (cvt ζ m4 [] ((180,214)::m3) [] 216 216 (FM q40)) ?_
     exact ai H
    refine dI ?_
    refine aa H λx41 hx41 H=>dA (xwT hx41) ?_
    refine dA (oe (he:=fK _ hx41)) ?_
    refine wI ?_
    refine aa H λv52 Hj H=>jA ⟨[],(nT v52),211⟩ ?_ ?_
    .refine cC Hj ?_ ?_<;>intro H
     .exact ai H
     refine aa H λv63 Hj H=>jA ⟨[],(nT v63),211⟩ ?_ ?_
     .refine cC Hj ?_ ?_<;>intro H
      .refine zI (List.range 13) ?_
       refine aa H λx64 hx64 H=>zA (xwT hx64) ?_
       refine zA (oea (he:=fK _ hx64)) ?_
       refine aa H λr65 q65 H=>zA (cu (hF:=FG q65)) ?_
       refine aa H λr66 q66 H=>zB (aK (eE 211) (aK (eE 212) (eE 213))) (tj rfl (cvt ζ m4 [] ((180,211)::(181,212)::(182,213)::m3) [] 214 214 (tF q66))) dH ?_
       exact ai H
      refine zI (List.range 13) ?_
      refine aa H λx67 hx67 H=>zA (xwT hx67) ?_
      refine zA (oea (he:=fK _ hx67)) ?_
      refine aa H λr68 q68 H=>zA (cu (hF:=Em q68)) ?_
      refine aa H λr69 q69 H=>zB (aK (eE 211) (aK (eE 212) (eE 213))) (tj rfl (cvt ζ m4 [] ((180,211)::(181,212)::(182,213)::m3) [] 214 214 (tF q69))) dH ?_
      exact ai H
     exact ai H
    exact ai H
   exact ai H
  exact ai H
 cases H
 exact tw
theorem FL{a0:ae}{a1:Int}{r:ae}(H:qk a0 a1=ς r):FnV prog 38 (nT a0) [tP 200,tI a1] (nT r) (.tup []) []:=by
 refine fV func38 ntmps38 ?_
 refine aa H λv25 Hj H=>jB ⟨[],(nT v25),210⟩ ?_ ?_
 .refine iT Hj (λq=>⟨[(0,tP 200),(1,tI a1),(4,tI q.1)],(nT q.2),210⟩) ?_
  rintro⟨v1,v12⟩ o H
  refine ad ?_
  refine aa H λv26 Hj H=>jR ⟨[(0,tP 200),(1,tI a1),(4,tI v1),(15,tB v26)],(nT v12),210⟩ ?_ ?_
  .exact az Hj
  refine cC H ?_ ?_<;>intro H
  .refine aa H λr27 q27 H=>sA (cvt ζ m4 [] m3 [] 210 210 (Qu q27)) ?_
   exact aN H
  exact aE H
 cases H
 exact tw
end Go.AM
