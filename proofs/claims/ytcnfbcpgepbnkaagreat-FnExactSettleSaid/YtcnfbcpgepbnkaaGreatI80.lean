/- A part. -/
import Derived.Test.YtcnfbcpgepbnkaaGreatI6
set_option linter.unusedVariables false
set_option linter.unusedSimpArgs false
open Option renaming some->ς,none->ξ
open Bool renaming true->ζ,false->η
open True renaming intro->θ
namespace Go.AM
open Go.Proofs
open Tryz
attribute [local irreducible] AWN NS AWO AWR AWC DR DZ cO eB iter
set_option maxRecDepth 100000
set_option maxHeartbeats 4000000
theorem yt{a0:List aP}{r:List aP}(H:kP a0=ς r):FnU prog 153 [aL (a0.map b9)] [.c (.own 251 1 (r.map b9) r.length)]:=by
 refine ee func153 (hN:=ntmps153) (h:=?_)
 refine wI ?_
 obtain⟨h,H⟩:=rq H
 refine nA (mkT (enc:=b9) (za:=(⟨[]⟩:aP)) h (by rfl)) ?_
 refine aa H λv6 Hj H=>jB ⟨[(3,.v (.c (.w 0 v6.length)))],[(0,.row 251 1 (v6.map b9) (.s 0) ζ)],1⟩ ?_ ?_
 .refine iT Hj (λq=>⟨[(3,.v (.c (.w 0 q.2.length))),(9,.v (.c (.d η (.l (a0.map b9))))),(10,tI (a0.length:Int)),(11,tI q.1)],[(0,.row 251 1 (q.2.map b9) (.s 0) ζ)],1⟩) ?_ (aK (yn 0) wo)
  rintro⟨v1,v2⟩ o H
  refine ad ?_
  refine cC H ?_ ?_<;>intro H
  .refine aa H λx7 hx7 H=>nA (xdT (enc:=b9) hx7) ?_
   refine aa H λr8 q8 H=>nA (ca (hF:=xg.h q8)) ?_
   refine aa H λx9 hx9 H=>nA (xwT hx9) ?_
   refine cd (eE 2) ?_
   refine sA (stT (enc:=b9) (a':=(⟨r8⟩:aP)) hx9) ?_
   exact aN H
  exact aE H
 cases H
 exact bD
theorem yr{a0:List ab}{r:List ab}(H:i9 a0=ς r):FnU prog 229 [aL (a0.map an)] [.c (.own 249 2 (r.map an) r.length)]:=by
 refine ee func229 (hN:=ntmps229) (h:=?_)
 refine wI ?_
 obtain⟨h,H⟩:=rq H
 refine nA (mkT (enc:=an) (za:=bE) h (by rfl)) ?_
 refine aa H λv6 Hj H=>jB ⟨[(3,.v (.c (.w 0 v6.length)))],[(0,.row 249 2 (v6.map an) (.s 0) ζ)],1⟩ ?_ ?_
 .refine iT Hj (λq=>⟨[(3,.v (.c (.w 0 q.2.length))),(9,.v (.c (.d η (.l (a0.map an))))),(10,tI (a0.length:Int)),(11,tI q.1)],[(0,.row 249 2 (q.2.map an) (.s 0) ζ)],1⟩) ?_ (aK (yn 0) wo)
  rintro⟨v1,v2⟩ o H
  refine ad ?_
  refine cC H ?_ ?_<;>intro H
  .refine aa H λx7 hx7 H=>nA (xdT (enc:=an) hx7) ?_
   refine zI (List.range 10) ?_
   refine aa H λr8 q8 H=>zA (ca (hF:=xg.h q8)) ?_
   refine aa H λx9 hx9 H=>zA (xwT hx9) ?_
   refine zB (eE 2) (tj rfl (stT (enc:=an) (a':=(⟨x7.df,r8⟩:ab)) hx9)) dH ?_
   exact aN H
  exact aE H
 cases H
 exact bD
theorem Qt{a0:aU}{r:aU}(H:CZ a0=ς r):FnU prog 76 [.agg (eh a0)] [.agg [.own 198 2 (r.bh.map de) r.bh.length]]:=by
 refine ee func76 (hN:=ntmps76) (h:=?_)
 refine wI ?_
 obtain⟨h,H⟩:=rq H
 refine nA (mkT (enc:=de) (za:=Ju) h (by rfl)) ?_
 refine aa H λv6 Hj H=>jB ⟨[(2,tP 1),(3,.v (.c (.w 2 v6.length)))],[(1,.var 36 [.nil]),(2,.row 198 2 (v6.map de) (.s 2) ζ)],3⟩ ?_ ?_
 .refine iT Hj (λq=>⟨[(2,tP 1),(3,.v (.c (.w 2 q.2.length))),(11,.v (.c (.d η (.l (a0.bh.map de))))),(12,tI (a0.bh.length:Int)),(13,tI q.1)],[(1,.var 36 [.nil]),(2,.row 198 2 (q.2.map de) (.s 2) ζ)],3⟩) ?_ (aK (yn 2) wo)
  rintro⟨v1,v2⟩ o H
  refine ad ?_
  refine cC H ?_ ?_<;>intro H
  .refine aa H λx7 hx7 H=>nA (xdT (enc:=de) hx7) ?_
   refine zI (List.range 10) ?_
   refine aa H λr8 q8 H=>zA (ca (hF:=Fh.h q8)) ?_
   refine aa H λx9 hx9 H=>zA (xwT hx9) ?_
   refine zB (eE 4) (tj rfl (stT (enc:=de) (a':=(⟨x7.eO,r8⟩:cZ)) hx9)) dH ?_
   exact aN H
  exact aE H
 cases H
 exact bD
theorem FK{a0:aB}{r:aB}(H:kQ a0=ς r):FnU prog 151 [.agg (dW a0)] [.agg (qM [.o,.o] (cr r))]:=by
 refine ee func151 (hN:=ntmps151) (h:=?_)
 refine wI ?_
 refine zI (List.range 10) ?_
 refine aa H λr1 q1 H=>zA (cu (hF:=yr q1)) ?_
 refine aa H λr2 q2 H=>zA (cu (hF:=yt q2)) ?_
 refine wA (spx 100162) ?_
 cases H
 exact bD
theorem Bp{a0:aF}{r:aF}(H:qQ a0=ς r):FnU prog 78 [.agg (bG a0)] [.agg (qM [.o,.o] (ku r))]:=by
 refine ee func78 (hN:=ntmps78) (h:=?_)
 refine wI ?_
 refine aa H λr1 q1 H=>nA (cu (hF:=FK q1)) ?_
 cases H
 exact bD
theorem Bd{a0:bK}{r:bK}(H:kZ a0=ς r):FnU prog 152 [.agg (ga a0)] [.agg (qM [.o] (tu r))]:=by
 refine ee func152 (hN:=ntmps152) (h:=?_)
 refine wI ?_
 refine aa H λr1 q1 H=>nA (ca (hF:=Fh.h q1)) ?_
 cases H
 refine jw (mt 2) ?_
 exact bD
theorem mN{a0:aG}{r:aG}(H:jO a0=ς r):FnU prog 154 [.agg (ec a0)] [.agg (qM [.o] (dF r))]:=by
 refine ee func154 (hN:=ntmps154) (h:=?_)
 refine wI ?_
 refine zI (List.range 7) ?_
 refine aa H λr1 q1 H=>zA (cu (hF:=yr q1)) ?_
 refine wA (spx 100164) ?_
 cases H
 exact bD
theorem lI{a0:ag}{r:ag}(H:iJ a0=ς r):FnU prog 80 [.agg (aM a0)] [.agg (qM [.o,.o,.o] (dh r))]:=by
 refine ee func80 (hN:=ntmps80) (h:=?_)
 refine wI ?_
 refine aa H λr1 q1 H=>nA (cu (hF:=Bd q1)) ?_
 refine aa H λr2 q2 H=>nA (cu (hF:=yt q2)) ?_
 refine aa H λr3 q3 H=>nA (cu (hF:=mN q3)) ?_
 cases H
 exact bD
theorem gk{a0:aj}{r:aj}(H:er a0=ς r):FnU prog 82 [.agg (bj a0)] [.agg (qM [.o] (cp r))]:=by
 refine ee func82 (hN:=ntmps82) (h:=?_)
 refine wI ?_
 refine aa H λr1 q1 H=>nA (ca (hF:=qS.h q1)) ?_
 cases H
 refine jw (mt 2) ?_
 exact bD
theorem HM{a0:aV}{r:aV}(H:sC a0=ς r):FnU prog 231 [.agg (dL a0)] [.agg (qM [.o] (lX r))]:=by
 refine ee func231 (hN:=ntmps231) (h:=?_)
 refine wI ?_
 refine aa H λr1 q1 H=>nA (ca (hF:=xg.h q1)) ?_
 cases H
 refine jw (mt 2) ?_
 exact bD
theorem LW{a0:am}{r:am}(H:xh a0=ς r):FnU prog 156 [.agg (cQ a0)] [.agg (qM [.o] (gX r))]:=by
 refine ee func156 (hN:=ntmps156) (h:=?_)
 refine wI ?_
 refine aa H λr1 q1 H=>nA (cu (hF:=HM q1)) ?_
 cases H
 exact bD
theorem Bq{a0:a9}{r:a9}(H:qR a0=ς r):FnU prog 84 [.agg (bA a0)] [.agg (qM [.o] (ox r))]:=by
 refine ee func84 (hN:=ntmps84) (h:=?_)
 refine wI ?_
 refine aa H λr1 q1 H=>nA (cu (hF:=LW q1)) ?_
 cases H
 exact bD
theorem dm{a0:aF}{a1:List aD}{r:aZ}(H:cY a0 a1=ς r):FnU prog 184 [.agg (bG a0),aL (a1.map cP)] [.agg (qM [.o,.o,.o] (cU r))]:=by
 refine ee func184 (hN:=ntmps184) (h:=?_)
 refine wI ?_
 refine aa H λr1 q1 H=>nA (cu (hF:=Bp q1)) ?_
 refine aa H λr2 q2 H=>nA (ca (hF:=mM.h q2)) ?_
 cases H
 refine jw (mt 4) ?_
 exact bD
theorem dY{a0:ag}{a1:List aD}{r:bm}(H:di a0 a1=ς r):FnU prog 252 [.agg (aM a0),aL (a1.map cP)] [.agg (qM [.o,.o,.o,.o] (cV r))]:=by
 refine ee func252 (hN:=ntmps252) (h:=?_)
 refine wI ?_
 refine aa H λr1 q1 H=>nA (cu (hF:=lI q1)) ?_
 refine aa H λr2 q2 H=>nA (ca (hF:=mM.h q2)) ?_
 cases H
 refine jw (mt 5) ?_
 exact bD
theorem mC{a0:List aF}{r:List aF}(H:eY a0=ς r):FnV prog 77 [] [.v (.c (.d η (.l (a0.map bG)))),.v (.c (.fn 78))] [] (.v (.c (.w 210 r.length))) [(210,.row 129 14 (r.map bG) (.s 210) ζ)]:=by
 refine fV func77 ntmps77 ?_
 obtain⟨h,H⟩:=rq H
 refine nA (mkT (enc:=bG) (za:=Ap) h (by rfl)) ?_
 refine aa H λv6 Hj H=>jB ⟨[(5,.v (.c (.w 210 v6.length)))],[(210,.row 129 14 (v6.map bG) (.s 210) ζ)],211⟩ ?_ ?_
 .refine iT Hj (λq=>⟨[(1,.v (.c (.fn 78))),(5,.v (.c (.w 210 q.2.length))),(11,.v (.c (.d η (.l (a0.map bG))))),(12,tI (a0.length:Int)),(13,tI q.1)],[(210,.row 129 14 (q.2.map bG) (.s 210) ζ)],211⟩) ?_ (aK (yn 210) wo)
  rintro⟨v1,v2⟩ o H
  refine ad ?_
  refine cC H ?_ ?_<;>intro H
  .refine aa H λx7 hx7 H=>nA (xdT (enc:=bG) hx7) ?_
   refine aa H λr8 q8 H=>nA (OK rfl (cu (hF:=Bp q8))) ?_
   refine aa H λx9 hx9 H=>nA (xwT hx9) ?_
   refine cd (eE 212) ?_
   refine cd (eE 213) ?_
   refine sA (stT (enc:=bG) (a':=r8) hx9) ?_
   exact aN H
  exact aE H
 cases H
 exact eo
theorem lH{a0:List ag}{r:List ag}(H:eL a0=ς r):FnV prog 79 [] [.v (.c (.d η (.l (a0.map aM)))),.v (.c (.fn 80))] [] (.v (.c (.w 210 r.length))) [(210,.row 140 30 (r.map aM) (.s 210) ζ)]:=by
 refine fV func79 ntmps79 ?_
 obtain⟨h,H⟩:=rq H
 refine nA (mkT (enc:=aM) (za:=s8) h (by rfl)) ?_
 refine aa H λv6 Hj H=>jB ⟨[(5,.v (.c (.w 210 v6.length)))],[(210,.row 140 30 (v6.map aM) (.s 210) ζ)],211⟩ ?_ ?_
 .refine iT Hj (λq=>⟨[(1,.v (.c (.fn 80))),(5,.v (.c (.w 210 q.2.length))),(11,.v (.c (.d η (.l (a0.map aM))))),(12,tI (a0.length:Int)),(13,tI q.1)],[(210,.row 140 30 (q.2.map aM) (.s 210) ζ)],211⟩) ?_ (aK (yn 210) wo)
  rintro⟨v1,v2⟩ o H
  refine ad ?_
  refine cC H ?_ ?_<;>intro H
  .refine aa H λx7 hx7 H=>nA (xdT (enc:=aM) hx7) ?_
   refine aa H λr8 q8 H=>nA (OK rfl (cu (hF:=lI q8))) ?_
   refine aa H λx9 hx9 H=>nA (xwT hx9) ?_
   refine cd (eE 212) ?_
   refine cd (eE 213) ?_
   refine cd (eE 214) ?_
   refine sA (stT (enc:=aM) (a':=r8) hx9) ?_
   exact aN H
  exact aE H
 cases H
 exact eo
theorem lG{a0:List aj}{r:List aj}(H:eJ a0=ς r):FnV prog 81 [] [.v (.c (.d η (.l (a0.map bj)))),.v (.c (.fn 82))] [] (.v (.c (.w 210 r.length))) [(210,.row 144 4 (r.map bj) (.s 210) ζ)]:=by
 refine fV func81 ntmps81 ?_
 obtain⟨h,H⟩:=rq H
 refine nA (mkT (enc:=bj) (za:=jL) h (by rfl)) ?_
 refine aa H λv6 Hj H=>jB ⟨[(5,.v (.c (.w 210 v6.length)))],[(210,.row 144 4 (v6.map bj) (.s 210) ζ)],211⟩ ?_ ?_
 .refine iT Hj (λq=>⟨[(1,.v (.c (.fn 82))),(5,.v (.c (.w 210 q.2.length))),(11,.v (.c (.d η (.l (a0.map bj))))),(12,tI (a0.length:Int)),(13,tI q.1)],[(210,.row 144 4 (q.2.map bj) (.s 210) ζ)],211⟩) ?_ (aK (yn 210) wo)
  rintro⟨v1,v2⟩ o H
  refine ad ?_
  refine cC H ?_ ?_<;>intro H
  .refine aa H λx7 hx7 H=>nA (xdT (enc:=bj) hx7) ?_
   refine aa H λr8 q8 H=>nA (OK rfl (cu (hF:=gk q8))) ?_
   refine aa H λx9 hx9 H=>nA (xwT hx9) ?_
   refine cd (eE 212) ?_
   refine sA (stT (enc:=bj) (a':=r8) hx9) ?_
   exact aN H
  exact aE H
 cases H
 exact eo
theorem mD{a0:List a9}{r:List a9}(H:eZ a0=ς r):FnV prog 83 [] [.v (.c (.d η (.l (a0.map bA)))),.v (.c (.fn 84))] [] (.v (.c (.w 210 r.length))) [(210,.row 152 21 (r.map bA) (.s 210) ζ)]:=by
 refine fV func83 ntmps83 ?_
 obtain⟨h,H⟩:=rq H
 refine nA (mkT (enc:=bA) (za:=jM) h (by rfl)) ?_
 refine aa H λv6 Hj H=>jB ⟨[(5,.v (.c (.w 210 v6.length)))],[(210,.row 152 21 (v6.map bA) (.s 210) ζ)],211⟩ ?_ ?_
 .refine iT Hj (λq=>⟨[(1,.v (.c (.fn 84))),(5,.v (.c (.w 210 q.2.length))),(11,.v (.c (.d η (.l (a0.map bA))))),(12,tI (a0.length:Int)),(13,tI q.1)],[(210,.row 152 21 (q.2.map bA) (.s 210) ζ)],211⟩) ?_ (aK (yn 210) wo)
  rintro⟨v1,v2⟩ o H
  refine ad ?_
  refine cC H ?_ ?_<;>intro H
  .refine aa H λx7 hx7 H=>nA (xdT (enc:=bA) hx7) ?_
   refine aa H λr8 q8 H=>nA (OK rfl (cu (hF:=Bq q8))) ?_
   refine aa H λx9 hx9 H=>nA (xwT hx9) ?_
   refine cd (eE 212) ?_
   refine sA (stT (enc:=bA) (a':=r8) hx9) ?_
   exact aN H
  exact aE H
 cases H
 exact eo
theorem HK{a0:ae}{r:ae}(H:sB a0=ς r):FnU prog 35 [.agg (eC a0)] [.agg (qM [.o,.o,.o,.o,.o] (cX r))]:=by
 refine ee func35 (hN:=ntmps35) (h:=?_)
 refine wI ?_
 refine aa H λr1 q1 H=>nA (cu (hF:=Qt q1)) ?_
 refine aa H λr2 q2 H=>sA (cvt η [] [(210,3)] [] [(210,4)] 4 5 (mC q2)) ?_
 refine aa H λr3 q3 H=>sA (cvt η [] [(210,5)] [] [(210,6)] 6 7 (lH q3)) ?_
 refine aa H λr4 q4 H=>sA (cvt η [] [(210,7)] [] [(210,8)] 8 9 (lG q4)) ?_
 refine aa H λr5 q5 H=>sA (cvt η [] [(210,9)] [] [(210,10)] 10 11 (mD q5)) ?_
 cases H
 exact bD
end Go.AM
