/- A part. -/
import Derived.Test.YtcnfbcpgepbnkaaGreatI86
set_option linter.unusedVariables false
set_option linter.unusedSimpArgs false
open Option renaming some->ς,none->ξ
open Bool renaming true->ζ,false->η
open True renaming intro->θ
open List renaming range->f6
namespace Go.AM
open Go.Proofs
open Tryz
attribute [local irreducible] AWN NS AWO AWR AWC DR DZ cO eB iter
set_option maxRecDepth 100000
set_option maxHeartbeats 4000000
theorem HI{a0:aG}{a1:List Int}{r:aG×ab×Bool}(H:qP a0 a1=ς r)(hflag:r.2.2=ζ):FnU prog 279 [.agg (ec a0),aL (a1.map eU8)] [.agg (qM [.o] (dF r.1)),.agg (qM [.o] (dv r.2.1)),.c (.d (.b r.2.2))]:=by
 refine ee func279 (hN:=ntmps279) (h:=?_)
 refine wI ?_
 refine aa H λr1 q1 H=>nA (cu (hF:=mN q1)) ?_
 refine zI (f6 11) ?_
 refine aa H λr2 q2 H=>zA (cu (hF:=sy q2)) ?_
 obtain⟨h,H⟩:=rq H
 refine wA (bdkT 5) ?_
 refine uE (ds:=[5]) (by kernel_rfl) (by kernel_rfl) rfl (by kernel_rfl) dH (tj rfl (apTt (enc:=an) (ys:=r1.ar) (a:=(⟨a0.bw,r2⟩:ab)) h)) dH rfl ?_
 refine wkb ?_
 refine wA (spx 100349) ?_
 refine aa H λr3 q3 H=>nA (ca (hF:=we.h q3)) ?_
 refine cC H ?_ ?_<;>intro H
 .refine aa H λr4 q4 H=>nA (cu (hF:=mN q4)) ?_
  cases H
  cases hflag
 refine zI (f6 9) ?_
 refine aa H λr5 q5 H=>zA (cu (hF:=sy q5)) ?_
 refine wA (spx 100348) ?_
 refine wA (spx 100347) ?_
 cases H
 exact bD
theorem HG{a0:aG}{a1:List Int}{r:aG×ab×Bool}(H:qP a0 a1=ς r)(hflag:r.2.2=η):FnU prog 279 [.agg (ec a0),aL (a1.map eU8)] [.agg (qM [.o] (dF r.1)),.agg (qM [.z] (dv r.2.1)),.c (.d (.b r.2.2))]:=by
 refine ee func279 (hN:=ntmps279) (h:=?_)
 refine wI ?_
 refine aa H λr1 q1 H=>nA (cu (hF:=mN q1)) ?_
 refine zI (f6 11) ?_
 refine aa H λr2 q2 H=>zA (cu (hF:=sy q2)) ?_
 obtain⟨h,H⟩:=rq H
 refine wA (bdkT 5) ?_
 refine uE (ds:=[5]) (by kernel_rfl) (by kernel_rfl) rfl (by kernel_rfl) dH (tj rfl (apTt (enc:=an) (ys:=r1.ar) (a:=(⟨a0.bw,r2⟩:ab)) h)) dH rfl ?_
 refine wkb ?_
 refine wA (spx 100352) ?_
 refine aa H λr3 q3 H=>nA (ca (hF:=we.h q3)) ?_
 refine cC H ?_ ?_<;>intro H
 .refine aa H λr4 q4 H=>nA (cu (hF:=mN q4)) ?_
  cases H
  exact bD
 refine zI (f6 9) ?_
 refine aa H λr5 q5 H=>zA (cu (hF:=sy q5)) ?_
 refine wA (spx 100351) ?_
 refine wA (spx 100350) ?_
 cases H
 cases hflag
theorem Qs{a0:ag}{a1:aj}{r:bk}(H:CX a0 a1=ς r):FnU prog 191 [.agg (aM a0),.agg (bj a1)] [.agg (qM [.o,.o,.o,.o,.z,.d] (bv {r with ou:=[]}))]:=by
 refine ee func191 (hN:=ntmps191) (h:=?_)
 refine wI ?_
 refine zI (f6 7) ?_
 refine aa H λr1 q1 H=>zA (cu (hF:=lI q1)) ?_
 refine aa H λr2 q2 H=>zA (cu (hF:=gk q2)) ?_
 refine wA (spx 100370) ?_
 refine aa H λr3 q3 H=>nA (ca (hF:=uN.h q3)) ?_
 refine aa H λv4 Hj H=>jR ⟨[(4,tP 2),(5,tP 7),(24,tB v4)],(oT [.w 3,.w 4,.w 5,.w 6,.z,.z] 7 185 (bv {bU with aX:=r1,eu:=r2})++[(2,.var 185 (kM [.z,.z,.z,.z,.z,.z] (bv bU)))]),8⟩ ?_ ?_
 .exact az Hj
 refine cC H ?_ ?_<;>intro H
 .cases H
  refine jw (s7 (o:=2) (j:=35)) ?_
  exact bD
 obtain⟨⟨v79,v84,v85⟩,Hj,H⟩:=ob H
 refine jB ⟨[(4,tP 2),(5,tP 7)],(oT [.w 3,.w 4,.w 5,.w 6,.z,.y 8] 7 185 (bv (⟨v84,v85,[],v79⟩:bk))++[(2,.var 185 (kM [.z,.z,.z,.z,.z,.z] (bv bU)))]),9⟩ ?_ ?_
 .refine iT Hj (λq=>⟨[(4,tP 2),(5,tP 7),(6,tI q.1)],(oT [.w 3,.w 4,.w 5,.w 6,.z,.y 8] 7 185 (bv (⟨q.2.2.1,q.2.2.2,[],q.2.1⟩:bk))++[(2,.var 185 (kM [.z,.z,.z,.z,.z,.z] (bv bU)))]),9⟩) ?_ (by refine aK (An (o:=7) (j:=35) 150 6 ζ) ?_;refine aK (wB 8 (([]:List am).length)) ?_;exact wo)
  rintro⟨v5,v36,v41,v42⟩ o H
  refine ad ?_
  refine cC H ?_ ?_<;>intro H
  .refine aa H λv86 Hj H=>jR ⟨[(4,tP 2),(5,tP 7),(6,tI v5),(7,tI v41.aC.bw),(47,tB v86)],(oT [.w 3,.w 4,.w 5,.w 6,.z,.y 8] 7 185 (bv (⟨v41,v42,[],v36⟩:bk))++[(2,.var 185 (kM [.z,.z,.z,.z,.z,.z] (bv bU)))]),9⟩ ?_ ?_
   .exact az Hj
   refine cC H ?_ ?_<;>intro H
   .exact aE H
   refine aa H λx87 hx87 H=>nA (xwT hx87) ?_
   refine nA (oe (he:=fK _ hx87)) ?_
   refine aa H λr88 q88 H=>nA (cu (hF:=Hv q88)) ?_
   refine aa H λr89 q89 H=>nA (ca (hF:=y6.h q89)) ?_
   refine cC H ?_ ?_<;>intro H
   .cases H
    refine HS (λhq=>?_)
    cases hq
    refine wI ?_
    refine aK (wT 3 9) ?_
    refine aK (wT 4 10) ?_
    refine aK (wT 5 11) ?_
    refine aK (wT 6 12) ?_
    exact wo
   obtain⟨r90,q90,H⟩:=ob H
   rcases hb:r90.2.2 with _|_
   .have H:=bf hb H
    refine Bn rfl (cu (hF:=HG q90 hb)) ?_
    simp only[hb]
    refine wI ?_
    cases H
    refine HS (λhq=>?_)
    cases hq
    refine wI ?_
    refine aK (wT 3 9) ?_
    refine aK (wT 4 10) ?_
    refine aK (wT 5 11) ?_
    refine aK (wT 6 12) ?_
    exact wo
   have H:=bt hb H
   refine Bn rfl (cu (hF:=HI q90 hb)) ?_
   simp only[hb]
   refine wI ?_
   refine zI (f6 17) ?_
   refine aa H λr91 q91 H=>zA (ca (hF:=(LV.h q91).frzs (by repeat (first|exact θ|refine⟨?_,?_⟩|exact lm _|rfl)))) ?_
   obtain⟨h,H⟩:=rq H
   refine zB dH (tj rfl (Up (enc:=cQ) (ys:=v36) (zs:=[r91]) h (by first|exact List.cons_ne_nil _ _|simp) rfl (λ_=>rfl) (by first|rfl|simp) (.w rfl (by first|rfl|exact lm _|simp)) rfl rfl rfl rfl rfl rfl rfl rfl rfl rfl)) dH ?_
   refine wA (spx 100369) ?_
   cases H
   refine yH ?_
   refine aK (ez 8) ?_
   refine aK (wT 3 9) ?_
   refine aK (wT 4 10) ?_
   refine aK (wT 5 13) ?_
   refine aK (wT 6 12) ?_
   exact wo
  exact aE H
 cases H
 refine jw (eD 8) ?_
 exact bD
end Go.AM
