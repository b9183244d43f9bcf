/- A part. -/
import Derived.Test.YtcnfbcpgepbnkaaGreatI9
set_option linter.unusedVariables false
set_option linter.unusedSimpArgs false
open Option renaming some->ς,none->ξ
open Bool renaming true->ζ,false->η
open True renaming intro->θ
namespace Go.AM
open Go.Proofs
open Tryz
attribute [local irreducible] AWN NS AWO AWR AWC DR DZ cp ec iter
set_option maxRecDepth 100000
set_option maxHeartbeats 4000000
theorem vj{a0:List aC}{r:List aC}(H:jC a0=ς r):FnU prog 153 [aL (a0.map bQ)] [.c (.own 251 1 (r.map bQ) r.length)]:=by
 refine fB func153 (hN:=ntmps153) (h:=?_)
 refine wI ?_
 obtain⟨h,H⟩:=rq H
 refine nA (mkT (enc:=bQ) (za:=(⟨[]⟩:aC)) h (by rfl)) ?_
 refine aa H λv6 Hj H=>jB ⟨[(3,.v (.c (.w 0 v6.length)))],[(0,.row 251 1 (v6.map bQ) (.s 0) ζ)],1⟩ ?_ ?_
 .refine iT Hj (λq=>⟨[(3,.v (.c (.w 0 q.2.length))),(9,.v (.c (.d η (.l (a0.map bQ))))),(10,tI (a0.length:Int)),(11,tI q.1)],[(0,.row 251 1 (q.2.map bQ) (.s 0) ζ)],1⟩) ?_ (bv (vf 0) wo)
  rintro⟨v1,v2⟩ o H
  refine ad ?_
  refine cC H ?_ ?_<;>intro H
  .refine aa H λx7 hx7 H=>nA (xdT (enc:=bQ) hx7) ?_
   refine aa H λr8 q8 H=>nA (ca (hF:=ur.h q8)) ?_
   refine aa H λx9 hx9 H=>nA (xwT hx9) ?_
   refine di (fA 2) ?_
   refine sA (stT (enc:=bQ) (a':=(⟨r8⟩:aC)) hx9) ?_
   exact aN H
  exact aE H
 cases H
 exact cq
theorem vi{a0:List ab}{r:List ab}(H:gR a0=ς r):FnU prog 229 [aL (a0.map ah)] [.c (.own 249 2 (r.map ah) r.length)]:=by
 refine fB func229 (hN:=ntmps229) (h:=?_)
 refine wI ?_
 obtain⟨h,H⟩:=rq H
 refine nA (mkT (enc:=ah) (za:=bg) h (by rfl)) ?_
 refine aa H λv6 Hj H=>jB ⟨[(3,.v (.c (.w 0 v6.length)))],[(0,.row 249 2 (v6.map ah) (.s 0) ζ)],1⟩ ?_ ?_
 .refine iT Hj (λq=>⟨[(3,.v (.c (.w 0 q.2.length))),(9,.v (.c (.d η (.l (a0.map ah))))),(10,tI (a0.length:Int)),(11,tI q.1)],[(0,.row 249 2 (q.2.map ah) (.s 0) ζ)],1⟩) ?_ (bv (vf 0) wo)
  rintro⟨v1,v2⟩ o H
  refine ad ?_
  refine cC H ?_ ?_<;>intro H
  .refine aa H λx7 hx7 H=>nA (xdT (enc:=ah) hx7) ?_
   refine zI (List.range 10) ?_
   refine aa H λr8 q8 H=>zA (ca (hF:=ur.h q8)) ?_
   refine aa H λx9 hx9 H=>zA (xwT hx9) ?_
   refine zB (fA 2) (yL rfl (stT (enc:=ah) (a':=(⟨x7.cP,r8⟩:ab)) hx9)) eG ?_
   exact aN H
  exact aE H
 cases H
 exact cq
theorem Mr{a0:bz}{r:bz}(H:vW a0=ς r):FnU prog 76 [.agg (gm a0)] [.agg [.own 198 2 (r.bD.map cQ) r.bD.length]]:=by
 refine fB func76 (hN:=ntmps76) (h:=?_)
 refine wI ?_
 obtain⟨h,H⟩:=rq H
 refine nA (mkT (enc:=cQ) (za:=Fl) h (by rfl)) ?_
 refine aa H λv6 Hj H=>jB ⟨[(2,tP 1),(3,.v (.c (.w 2 v6.length)))],[(1,.var 36 [.nil]),(2,.row 198 2 (v6.map cQ) (.s 2) ζ)],3⟩ ?_ ?_
 .refine iT Hj (λq=>⟨[(2,tP 1),(3,.v (.c (.w 2 q.2.length))),(11,.v (.c (.d η (.l (a0.bD.map cQ))))),(12,tI (a0.bD.length:Int)),(13,tI q.1)],[(1,.var 36 [.nil]),(2,.row 198 2 (q.2.map cQ) (.s 2) ζ)],3⟩) ?_ (bv (vf 2) wo)
  rintro⟨v1,v2⟩ o H
  refine ad ?_
  refine cC H ?_ ?_<;>intro H
  .refine aa H λx7 hx7 H=>nA (xdT (enc:=cQ) hx7) ?_
   refine zI (List.range 10) ?_
   refine aa H λr8 q8 H=>zA (ca (hF:=B0.h q8)) ?_
   refine aa H λx9 hx9 H=>zA (xwT hx9) ?_
   refine zB (fA 4) (yL rfl (stT (enc:=cQ) (a':=(⟨x7.mG,r8⟩:cA)) hx9)) eG ?_
   exact aN H
  exact aE H
 cases H
 exact cq
theorem Ci{a0:aj}{r:aj}(H:jD a0=ς r):FnU prog 151 [.agg (dw a0)] [.agg (qM [.o,.o] (bX r))]:=by
 refine fB func151 (hN:=ntmps151) (h:=?_)
 refine wI ?_
 refine zI (List.range 10) ?_
 refine aa H λr1 q1 H=>zA (cu (hF:=vi q1)) ?_
 refine aa H λr2 q2 H=>zA (cu (hF:=vj q2)) ?_
 refine wA (spx 100162) ?_
 cases H
 exact cq
theorem yw{a0:av}{r:av}(H:mz a0=ς r):FnU prog 78 [.agg (aZ a0)] [.agg (qM [.o,.o] (gv r))]:=by
 refine fB func78 (hN:=ntmps78) (h:=?_)
 refine wI ?_
 refine aa H λr1 q1 H=>nA (cu (hF:=Ci q1)) ?_
 cases H
 exact cq
theorem yb{a0:bh}{r:bh}(H:gA a0=ς r):FnU prog 152 [.agg (eB a0)] [.agg (qM [.o] (mM r))]:=by
 refine fB func152 (hN:=ntmps152) (h:=?_)
 refine wI ?_
 refine aa H λr1 q1 H=>nA (ca (hF:=B0.h q1)) ?_
 cases H
 refine JD (AY 2) ?_
 exact cq
theorem FD{a0:aF}{r:aF}(H:mB a0=ς r):FnU prog 154 [.agg (eA a0)] [.agg (qM [.o] (dW r))]:=by
 refine fB func154 (hN:=ntmps154) (h:=?_)
 refine wI ?_
 refine zI (List.range 7) ?_
 refine aa H λr1 q1 H=>zA (cu (hF:=vi q1)) ?_
 refine wA (spx 100164) ?_
 cases H
 exact cq
theorem vY{a0:ag}{r:ag}(H:kK a0=ς r):FnU prog 80 [.agg (aB a0)] [.agg (qM [.o,.o,.o] (gp r))]:=by
 refine fB func80 (hN:=ntmps80) (h:=?_)
 refine wI ?_
 refine aa H λr1 q1 H=>nA (cu (hF:=yb q1)) ?_
 refine aa H λr2 q2 H=>nA (cu (hF:=vj q2)) ?_
 refine aa H λr3 q3 H=>nA (cu (hF:=FD q3)) ?_
 cases H
 exact cq
theorem D0{a0:an}{r:an}(H:m0 a0=ς r):FnU prog 82 [.agg (bu a0)] [.agg (qM [.o] (xo r))]:=by
 refine fB func82 (hN:=ntmps82) (h:=?_)
 refine wI ?_
 refine aa H λr1 q1 H=>nA (ca (hF:=py.h q1)) ?_
 cases H
 refine JD (AY 2) ?_
 exact cq
theorem D2{a0:aS}{r:aS}(H:na a0=ς r):FnU prog 231 [.agg (cZ a0)] [.agg (qM [.o] (oG r))]:=by
 refine fB func231 (hN:=ntmps231) (h:=?_)
 refine wI ?_
 refine aa H λr1 q1 H=>nA (ca (hF:=ur.h q1)) ?_
 cases H
 refine JD (AY 2) ?_
 exact cq
theorem HW{a0:aT}{r:aT}(H:qX a0=ς r):FnU prog 156 [.agg (db a0)] [.agg (qM [.o] (jy r))]:=by
 refine fB func156 (hN:=ntmps156) (h:=?_)
 refine wI ?_
 refine aa H λr1 q1 H=>nA (cu (hF:=D2 q1)) ?_
 cases H
 exact cq
theorem yx{a0:aH}{r:aH}(H:mA a0=ς r):FnU prog 84 [.agg (aW a0)] [.agg (qM [.o] (jh r))]:=by
 refine fB func84 (hN:=ntmps84) (h:=?_)
 refine wI ?_
 refine aa H λr1 q1 H=>nA (cu (hF:=HW q1)) ?_
 cases H
 exact cq
theorem dx{a0:av}{a1:List ar}{r:aK}(H:cO a0 a1=ς r):FnU prog 184 [.agg (aZ a0),aL (a1.map cb)] [.agg (qM [.o,.o,.o] (cd r))]:=by
 refine fB func184 (hN:=ntmps184) (h:=?_)
 refine wI ?_
 refine aa H λr1 q1 H=>nA (cu (hF:=yw q1)) ?_
 refine aa H λr2 q2 H=>nA (ca (hF:=lA.h q2)) ?_
 cases H
 refine JD (AY 4) ?_
 exact cq
theorem dz{a0:ag}{a1:List ar}{r:aP}(H:cM a0 a1=ς r):FnU prog 252 [.agg (aB a0),aL (a1.map cb)] [.agg (qM [.o,.o,.o,.o] (bP r))]:=by
 refine fB func252 (hN:=ntmps252) (h:=?_)
 refine wI ?_
 refine aa H λr1 q1 H=>nA (cu (hF:=vY q1)) ?_
 refine aa H λr2 q2 H=>nA (ca (hF:=lA.h q2)) ?_
 cases H
 refine JD (AY 5) ?_
 exact cq
theorem lf{a0:List av}{r:List av}(H:dL a0=ς r):FnV prog 77 [] [.v (.c (.d η (.l (a0.map aZ)))),.v (.c (.fn 78))] [] (.v (.c (.w 210 r.length))) [(210,.row 129 14 (r.map aZ) (.s 210) ζ)]:=by
 refine fV func77 ntmps77 ?_
 obtain⟨h,H⟩:=rq H
 refine nA (mkT (enc:=aZ) (za:=xj) h (by rfl)) ?_
 refine aa H λv6 Hj H=>jB ⟨[(5,.v (.c (.w 210 v6.length)))],[(210,.row 129 14 (v6.map aZ) (.s 210) ζ)],211⟩ ?_ ?_
 .refine iT Hj (λq=>⟨[(1,.v (.c (.fn 78))),(5,.v (.c (.w 210 q.2.length))),(11,.v (.c (.d η (.l (a0.map aZ))))),(12,tI (a0.length:Int)),(13,tI q.1)],[(210,.row 129 14 (q.2.map aZ) (.s 210) ζ)],211⟩) ?_ (bv (vf 210) wo)
  rintro⟨v1,v2⟩ o H
  refine ad ?_
  refine cC H ?_ ?_<;>intro H
  .refine aa H λx7 hx7 H=>nA (xdT (enc:=aZ) hx7) ?_
   refine aa H λr8 q8 H=>nA (KA rfl (cu (hF:=yw q8))) ?_
   refine aa H λx9 hx9 H=>nA (xwT hx9) ?_
   refine di (fA 212) ?_
   refine di (fA 213) ?_
   refine sA (stT (enc:=aZ) (a':=r8) hx9) ?_
   exact aN H
  exact aE H
 cases H
 exact ea
theorem kq{a0:List ag}{r:List ag}(H:dv a0=ς r):FnV prog 79 [] [.v (.c (.d η (.l (a0.map aB)))),.v (.c (.fn 80))] [] (.v (.c (.w 210 r.length))) [(210,.row 140 30 (r.map aB) (.s 210) ζ)]:=by
 refine fV func79 ntmps79 ?_
 obtain⟨h,H⟩:=rq H
 refine nA (mkT (enc:=aB) (za:=ud) h (by rfl)) ?_
 refine aa H λv6 Hj H=>jB ⟨[(5,.v (.c (.w 210 v6.length)))],[(210,.row 140 30 (v6.map aB) (.s 210) ζ)],211⟩ ?_ ?_
 .refine iT Hj (λq=>⟨[(1,.v (.c (.fn 80))),(5,.v (.c (.w 210 q.2.length))),(11,.v (.c (.d η (.l (a0.map aB))))),(12,tI (a0.length:Int)),(13,tI q.1)],[(210,.row 140 30 (q.2.map aB) (.s 210) ζ)],211⟩) ?_ (bv (vf 210) wo)
  rintro⟨v1,v2⟩ o H
  refine ad ?_
  refine cC H ?_ ?_<;>intro H
  .refine aa H λx7 hx7 H=>nA (xdT (enc:=aB) hx7) ?_
   refine aa H λr8 q8 H=>nA (KA rfl (cu (hF:=vY q8))) ?_
   refine aa H λx9 hx9 H=>nA (xwT hx9) ?_
   refine di (fA 212) ?_
   refine di (fA 213) ?_
   refine di (fA 214) ?_
   refine sA (stT (enc:=aB) (a':=r8) hx9) ?_
   exact aN H
  exact aE H
 cases H
 exact ea
theorem ko{a0:List an}{r:List an}(H:du a0=ς r):FnV prog 81 [] [.v (.c (.d η (.l (a0.map bu)))),.v (.c (.fn 82))] [] (.v (.c (.w 210 r.length))) [(210,.row 144 4 (r.map bu) (.s 210) ζ)]:=by
 refine fV func81 ntmps81 ?_
 obtain⟨h,H⟩:=rq H
 refine nA (mkT (enc:=bu) (za:=xV) h (by rfl)) ?_
 refine aa H λv6 Hj H=>jB ⟨[(5,.v (.c (.w 210 v6.length)))],[(210,.row 144 4 (v6.map bu) (.s 210) ζ)],211⟩ ?_ ?_
 .refine iT Hj (λq=>⟨[(1,.v (.c (.fn 82))),(5,.v (.c (.w 210 q.2.length))),(11,.v (.c (.d η (.l (a0.map bu))))),(12,tI (a0.length:Int)),(13,tI q.1)],[(210,.row 144 4 (q.2.map bu) (.s 210) ζ)],211⟩) ?_ (bv (vf 210) wo)
  rintro⟨v1,v2⟩ o H
  refine ad ?_
  refine cC H ?_ ?_<;>intro H
  .refine aa H λx7 hx7 H=>nA (xdT (enc:=bu) hx7) ?_
   refine aa H λr8 q8 H=>nA (KA rfl (cu (hF:=D0 q8))) ?_
   refine aa H λx9 hx9 H=>nA (xwT hx9) ?_
   refine di (fA 212) ?_
   refine sA (stT (enc:=bu) (a':=r8) hx9) ?_
   exact aN H
  exact aE H
 cases H
 exact ea
theorem lg{a0:List aH}{r:List aH}(H:dM a0=ς r):FnV prog 83 [] [.v (.c (.d η (.l (a0.map aW)))),.v (.c (.fn 84))] [] (.v (.c (.w 210 r.length))) [(210,.row 152 21 (r.map aW) (.s 210) ζ)]:=by
 refine fV func83 ntmps83 ?_
 obtain⟨h,H⟩:=rq H
 refine nA (mkT (enc:=aW) (za:=iF) h (by rfl)) ?_
 refine aa H λv6 Hj H=>jB ⟨[(5,.v (.c (.w 210 v6.length)))],[(210,.row 152 21 (v6.map aW) (.s 210) ζ)],211⟩ ?_ ?_
 .refine iT Hj (λq=>⟨[(1,.v (.c (.fn 84))),(5,.v (.c (.w 210 q.2.length))),(11,.v (.c (.d η (.l (a0.map aW))))),(12,tI (a0.length:Int)),(13,tI q.1)],[(210,.row 152 21 (q.2.map aW) (.s 210) ζ)],211⟩) ?_ (bv (vf 210) wo)
  rintro⟨v1,v2⟩ o H
  refine ad ?_
  refine cC H ?_ ?_<;>intro H
  .refine aa H λx7 hx7 H=>nA (xdT (enc:=aW) hx7) ?_
   refine aa H λr8 q8 H=>nA (KA rfl (cu (hF:=yx q8))) ?_
   refine aa H λx9 hx9 H=>nA (xwT hx9) ?_
   refine di (fA 212) ?_
   refine sA (stT (enc:=aW) (a':=r8) hx9) ?_
   exact aN H
  exact aE H
 cases H
 exact ea
theorem D1{a0:ae}{r:ae}(H:m9 a0=ς r):FnU prog 35 [.agg (ev a0)] [.agg (qM [.o,.o,.o,.o,.o] (c7 r))]:=by
 refine fB func35 (hN:=ntmps35) (h:=?_)
 refine wI ?_
 refine aa H λr1 q1 H=>nA (cu (hF:=Mr q1)) ?_
 refine aa H λr2 q2 H=>sA (cvt η [] [(210,3)] [] [(210,4)] 4 5 (lf q2)) ?_
 refine aa H λr3 q3 H=>sA (cvt η [] [(210,5)] [] [(210,6)] 6 7 (kq q3)) ?_
 refine aa H λr4 q4 H=>sA (cvt η [] [(210,7)] [] [(210,8)] 8 9 (ko q4)) ?_
 refine aa H λr5 q5 H=>sA (cvt η [] [(210,9)] [] [(210,10)] 10 11 (lg q5)) ?_
 cases H
 exact cq
end Go.AM
