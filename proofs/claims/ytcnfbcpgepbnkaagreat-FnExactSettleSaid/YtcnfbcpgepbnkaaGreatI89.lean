/- A part. -/
import Derived.Test.YtcnfbcpgepbnkaaGreatI88
set_option linter.unusedVariables false
set_option linter.unusedSimpArgs false
open Option renaming some->ς,none->ξ
open Bool renaming true->ζ,false->η
open True renaming intro->θ
namespace Go.AM
open Go.Proofs
open Tryz
attribute [local irreducible] AWN NS AWO AWR AWC DR DZ cO eB iter
set_option maxRecDepth 100000
set_option maxHeartbeats 4000000
variable{a0 r:Go.AM.ae}
theorem FN{a1:Int}{a2:List aD}(H:je a0 a1 a2=ς r):FnV prog 111 (nT a0) [tP 200,tI a1,.v (.c (.d ζ (.l (a2.map cP))))] (nT r) (.tup []) []:=by
 refine fV func111 ntmps111 ?_
 refine aa H λv25 Hj H=>jB ⟨[],(nT v25),210⟩ ?_ ?_
 .refine iT Hj (λq=>⟨[(0,tP 200),(1,tI a1),(8,.v (.c (.d ζ (.l (a2.map cP))))),(9,tI (a2.length:Int)),(10,tI q.1)],(nT q.2),210⟩) ?_
  rintro⟨v1,v12⟩ o H
  refine ad ?_
  refine cC H ?_ ?_<;>intro H
  .refine aa H λx26 hx26 H=>nA (xdT (enc:=cP) hx26) ?_
   refine aa H λr27 q27 H=>sA (cvt ζ m4 [] m3 [] 211 211 (Gq q27)) ?_
   exact aN H
  exact aE H
 cases H
 exact tw
theorem abB{r:Bool×ae}(H:SO a0=ς r):FnV prog 56 (nT a0) [tP 200] (nT r.2) (.v (.c (.d η (.b r.1)))) []:=by
 refine fV func56 ntmps56 ?_
 refine cC H ?_ ?_<;>intro H
 .cases H
  exact eo
 refine aa H λv26 Hj H=>jB ⟨[(0,tP 200)],(nT v26),210⟩ ?_ ?_
 .refine iT Hj (λq=>⟨[(0,tP 200),(24,tI (a0.aH.length:Int)),(25,tI q.1)],(nT q.2),210⟩) ?_
  rintro⟨v1,v12⟩ o H
  refine ad ?_
  refine cC H ?_ ?_<;>intro H
  .refine aa H λx27 hx27 H=>nA (xwT hx27) ?_
   refine nA (oea (he:=fK _ hx27)) ?_
   refine aa H λr28 q28 H=>nA (cu (hF:=JI q28)) ?_
   refine aa H λr29 q29 H=>cd (eE 210) ?_
   refine cd (eE 211) ?_
   refine cd (eE 212) ?_
   refine sA (cvt ζ m4 [] ((180,210)::(181,211)::(182,212)::m3) [] 213 213 (tF q29)) ?_
   exact aN H
  exact aE H
 refine aa H λv122 Hj H=>jB ⟨[],(nT v122),210⟩ ?_ ?_
 .refine iT Hj (λq=>⟨[(0,tP 200),(44,tI (v26.aT.length:Int)),(45,tI q.1)],(nT q.2),210⟩) ?_
  rintro⟨v30,v41⟩ o H
  refine ad ?_
  refine cC H ?_ ?_<;>intro H
  .refine wI ?_
   refine aa H λv159 Hj H=>R7 ⟨[(0,tP 200),(4,tI v30),(5,tP 210),(44,tI (v26.aT.length:Int)),(45,tI v30)],(nT v41++(oT [.w 211,.w 212,.w 213,.w 214,.t,.t] 210 185 (bv v159))),215⟩ Try.follows ?_ ?_
   .have H:=Hj
    refine Kc 18 19 rfl ?_ ?_
    .refine Lt [0,1,2,3,4,5,6,7,8,9,10,11,12,13,14,15,16,17,19,18,20] (by kernel_rfl) (by kernel_rfl) rfl ?_
     refine wI ?_
     refine aa H λx160 hx160 H=>zA (xwT hx160) ?_
     refine zA (oea (he:=fK _ hx160)) ?_
     refine aa H λx161 hx161 H=>zA (xwT hx161) ?_
     refine zA (oea (he:=fK _ hx161)) ?_
     refine aa H λr162 q162 H=>zA (cu (hF:=y9 q162)) ?_
     refine wA (spx 100409) ?_
     exact ai H
    refine Lt [0,1,2,3,4,5,6,7,8,9,10,11,12,13,14,15,16,17,18,19,20] (by kernel_rfl) (by kernel_rfl) rfl ?_
    refine wI ?_
    refine aa H λx160 hx160 H=>zA (xwT hx160) ?_
    refine zA (oea (he:=fK _ hx160)) ?_
    refine aa H λx161 hx161 H=>zA (xwT hx161) ?_
    refine zA (oea (he:=fK _ hx161)) ?_
    refine aa H λr162 q162 H=>zA (cu (hF:=y9 q162)) ?_
    refine wA (spx 100410) ?_
    cases H
    refine aK (wT 210 214) ?_
    refine aK (wT 211 214) ?_
    refine aK (wT 212 214) ?_
    refine aK (wT 213 214) ?_
    exact wo
   refine wI ?_
   refine zI (List.range 9) ?_
   refine aa H λx163 hx163 H=>zA (xwT hx163) ?_
   refine zB (aK (eE 211) (aK (eE 212) (eE 213))) (tj rfl (stT (enc:=aM) (a':=v159.aX) hx163)) dH ?_
   refine zI (List.range 9) ?_
   refine aa H λx164 hx164 H=>zA (xwT hx164) ?_
   refine zB (eE 214) (tj rfl (stT (enc:=bj) (a':=v159.eu) hx164)) dH ?_
   refine aa H λr165 q165 H=>cd (wB 191 ((v41.aT.set (v30).toNat v159.aX).length)) ?_
   refine cd (wB 192 ((v41.bu.set (v30).toNat v159.eu).length)) ?_
   refine sA (cvt ζ m4 [] m3 [] 215 215 (FN q165)) ?_
   refine aa H λv190 Hj H=>jB ⟨[(0,tP 200),(44,tI (v26.aT.length:Int)),(45,tI v30)],(nT v190),215⟩ ?_ ?_
   .refine iT Hj (λq=>⟨[(0,tP 200),(4,tI v30),(5,tP 210),(44,tI (v26.aT.length:Int)),(45,tI v30),(89,.v (.c (.d ζ (.l (v159.cF.map cQ))))),(90,tI (v159.cF.length:Int)),(91,tI q.1)],(nT q.2++[(210,.var 185 (kT [.j,.j,.j,.j,.t,.t] (bv v159)))]),215⟩) ?_
    rintro⟨v166,v177⟩ o H
    refine ad ?_
    refine cC H ?_ ?_<;>intro H
    .refine aa H λx191 hx191 H=>nA (xdT (enc:=cQ) hx191) ?_
     refine aa H λr192 q192 H=>sA (cvt ζ m4 [] m3 [] 216 216 (Gq q192)) ?_
     exact aN H
    exact aE H
   exact aN H
  exact aE H
 cases H
 exact eo
theorem AE{a1:Int}(H:uQ a0 a1=ς r):FnU prog 17 [.agg (eC a0),aI a1] [.agg (qM [.o,.o,.o,.o,.o] (cX r))]:=by
 refine ee func17 (hN:=ntmps17) (h:=?_)
 refine wI ?_
 refine aa H λr1 q1 H=>nA (cu (hF:=HK q1)) ?_
 refine aa H λr2 q2 H=>nA (ca (hF:=CS.h q2)) ?_
 refine aa H λv3 Hj H=>jR ⟨[(1,tI a1),(4,tP 1),(5,tP 7),(16,tB v3)],(oT [.w 2,.w 3,.w 4,.w 5,.w 6] 7 43 (cX r1)++[(1,.var 43 (kM [.z,.z,.z,.z,.z] (cX {Fc with fH:=(⟨[]⟩:aU)})))]),8⟩ ?_ ?_
 .refine gC Hj ?_ ?_<;>intro H
  .exact ai H
  refine aa H λr4 q4 H=>nG (ca (hF:=xb.h q4)) ?_
  exact ai H
 refine cC H ?_ ?_<;>intro H
 .cases H
  exact bD
 refine aa H λv29 Hj H=>jB ⟨[(4,tP 1),(5,tP 7)],(oT [.w 2,.w 3,.w 4,.w 5,.w 6] 7 43 (cX v29)++[(1,.var 43 (kM [.z,.z,.z,.z,.z] (cX {Fc with fH:=(⟨[]⟩:aU)})))]),8⟩ ?_ ?_
 .refine iT Hj (λq=>⟨[(1,tI a1),(4,tP 1),(5,tP 7),(6,tI q.1)],(oT [.w 2,.w 3,.w 4,.w 5,.w 6] 7 43 (cX q.2)++[(1,.var 43 (kM [.z,.z,.z,.z,.z] (cX {Fc with fH:=(⟨[]⟩:aU)})))]),8⟩) ?_ (by exact wo)
  rintro⟨v5,v16⟩ o H
  refine ad ?_
  refine cC H ?_ ?_<;>intro H
  .refine aa H λr30 q30 H=>sA (cvt ζ [(194,2),(190,3),(191,4),(192,5),(193,6),(200,7)] [] [(190,3),(191,4),(192,5),(193,6),(194,2)] [] 8 8 (abB q30)) ?_
   refine aa H λr31 q31 H=>sA (cvt ζ [(194,2),(190,3),(191,4),(192,5),(193,6),(200,7)] [] [(190,3),(191,4),(192,5),(193,6),(194,2)] [] 8 8 (FL q31)) ?_
   exact aN H
  exact aE H
 cases H
 exact bD
theorem N1(H:HF a0=ς r):FnU prog 15 [.agg (eC a0)] [.agg (qM [.o,.o,.o,.o,.o] (cX r))]:=by
 refine ee func15 (hN:=ntmps15) (h:=?_)
 refine wI ?_
 refine aa H λr1 q1 H=>nA (cu (hF:=AE q1)) ?_
 cases H
 exact bD
theorem KA(H:CY a0=ς r):FnU prog 19 [.agg (eC a0)] [.agg (qM [.o,.o,.o,.o,.o] (cX r))]:=by
 refine ee func19 (hN:=ntmps19) (h:=?_)
 refine wI ?_
 refine aa H λr1 q1 H=>nA (cu (hF:=AE q1)) ?_
 cases H
 exact bD
end Go.AM
