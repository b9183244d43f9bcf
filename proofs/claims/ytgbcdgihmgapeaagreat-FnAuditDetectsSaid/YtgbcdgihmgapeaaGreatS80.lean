/- A part. -/
import Derived.Test.YtgbcdgihmgapeaaGreatS18
import Derived.Test.YtgbcdgihmgapeaaGreatM0
set_option linter.unusedVariables false
set_option linter.unusedSimpArgs false
open Option renaming some->ς,none->ξ
open Bool renaming true->ζ,false->η
open True renaming intro->θ
open List renaming range->ZN,cons_ne_nil->abI
namespace Go.AM
open Go.Proofs
open Tryz
attribute [local irreducible] AWN NS AWO AWR AWC DR DZ cB eZ iter
set_option maxRecDepth 100000
set_option maxHeartbeats 4000000
theorem GC{a0:List bD}{r:List bD}(H:nB a0=ς r):FnU prog 46 [aL (a0.map de)] [.c (.own 50 1 (r.map de) r.length)]:=by
 refine Fk func46 (hN:=ntmps46) (h:=?_)
 refine wI ?_
 refine aa H λv4 Hj H=>jB ⟨[(3,.v (.c (.w 0 v4.length)))],[(0,.row 50 1 (v4.map de) (.s 0) ζ)],1⟩ ?_ ?_
 .refine iT Hj (λq=>⟨[(0,.v (.c (.d η (.l (a0.map de))))),(3,.v (.c (.w 0 q.2.length))),(4,tI q.1)],[(0,.row 50 1 (q.2.map de) (.s 0) ζ)],1⟩) ?_ (by refine aK (EI (l:=0) 0 rfl (by simp)) ?_;exact wo)
  rintro⟨v1,v2⟩ o H
  refine ad ?_
  refine cC H ?_ ?_<;>intro H
  .refine aa H λx5 hx5 H=>nA (xdT (enc:=de) hx5) ?_
   obtain⟨h,H⟩:=rq H
   refine iu rfl (apT (enc:=eU8) (ys:=([]:List Int)) (zs:=x5.bb) h) ?_
   refine aW (tC (enc:=eU8) (o:=1)) ?_
   refine ea (sa 1) ?_
   obtain⟨h,H⟩:=rq H
   refine sA obT ?_
   refine sA (apTt (enc:=de) (ys:=v2) (a:=(⟨(([]:List Int)++x5.bb)⟩:bD)) h) ?_
   exact aN H
  exact aE H
 cases H
 exact ye
theorem Jg{a0:List ae}{r:List ae}(H:pL a0=ς r):FnU prog 79 [aL (a0.map aX)] [.c (.own 167 2 (r.map aX) r.length)]:=by
 refine Fk func79 (hN:=ntmps79) (h:=?_)
 refine wI ?_
 refine aa H λv5 Hj H=>jB ⟨[(3,.v (.c (.w 0 v5.length)))],[(0,.row 167 2 (v5.map aX) (.s 0) ζ)],1⟩ ?_ ?_
 .refine iT Hj (λq=>⟨[(0,.v (.c (.d η (.l (a0.map aX))))),(3,.v (.c (.w 0 q.2.length))),(4,tI q.1)],[(0,.row 167 2 (q.2.map aX) (.s 0) ζ)],1⟩) ?_ (by refine aK (EI (l:=0) 0 rfl (by simp)) ?_;exact wo)
  rintro⟨v1,v2⟩ o H
  refine ad ?_
  refine cC H ?_ ?_<;>intro H
  .refine zI (ZN 17) ?_
   refine aa H λx6 hx6 H=>zA (xdT (enc:=aX) hx6) ?_
   refine aa H λx7 hx7 H=>zA (xdT (enc:=aX) hx7) ?_
   obtain⟨h,H⟩:=rq H
   refine wA (Wu (enc:=eU8) (ys:=([]:List Int)) (zs:=x7.bb) [1] h) ?_
   obtain⟨h,H⟩:=rq H
   refine wA (bdkT 2) ?_
   refine oY (ds:=[1,2]) (by kernel_rfl) (by kernel_rfl) rfl (by kernel_rfl) cr (jP rfl (apTt (enc:=aX) (ys:=v2) (a:=(⟨x6.cZ,(([]:List Int)++x7.bb)⟩:ae)) h)) cr rfl ?_
   refine wI ?_
   exact aN H
  exact aE H
 cases H
 exact ye
theorem Lb{a0:be}{r:be}(H:tp a0=ς r):FnU prog 44 [.agg (i9 a0)] [.agg (qM [.o,.o] (cH r))]:=by
 refine Fk func44 (hN:=ntmps44) (h:=?_)
 refine wI ?_
 refine zI (ZN 10) ?_
 refine aa H λr1 q1 H=>zA (cu (hF:=Jg q1)) ?_
 refine aa H λr2 q2 H=>zA (cu (hF:=GC q2)) ?_
 refine wA (spx 100027) ?_
 cases H
 exact ye
theorem zy36{a0:aC}{r:aC}(H:iH a0=ς r):FnU prog 26 [.agg (di a0)] [.agg (qM [.o,.o] (qa r))]:=by
 refine Fk func26 (hN:=ntmps26) (h:=?_)
 refine wI ?_
 refine aa H λr1 q1 H=>nA (cu (hF:=Lb q1)) ?_
 cases H
 exact ye
theorem Ld{a0:ab}{r:ab}(H:mO a0=ς r):FnV prog 14 [] [.v (.agg (kM [.f,.f,.f,.f,.f] (aS a0)))] [] (.v (.agg (kM [.t,.n 210,.n 211,.n 212,.n 213] (aS r)))) [(210,.rown 45 14 (r.aj.map di) (.s 210)),(211,n87 r.an),(212,n55 r.aU),(213,n71 r.aZ)]:=by
 refine fV func14 ntmps14 ?_
 refine zI (ZN 14) ?_
 refine aa H λr1 q1 H=>zA (ca (hF:=KQ.h q1)) ?_
 refine wA (spx 100092) ?_
 refine aa H λv6 Hj H=>jB ⟨[(1,tP 210),(2,tP 211),(3,tP 212)],(oT [.t,.x 213,.z,.z,.z] 212 34 (aS (⟨r1,v6,[],[],[],a0.cX,a0.d8,a0.oG,a0.jM⟩:ab))++[(210,.var 34 (kM [.f,.f,.f,.f,.f] (aS a0))),(211,.var 34 (kM [.z,.z,.z,.z,.z] (aS {dh with dV:=(⟨[]⟩:aV)})))]),214⟩ ?_ ?_
 .refine iT Hj (λq=>⟨[(1,tP 210),(2,tP 211),(3,tP 212),(4,tI q.1)],(oT [.t,.x 213,.z,.z,.z] 212 34 (aS (⟨r1,q.2,[],[],[],a0.cX,a0.d8,a0.oG,a0.jM⟩:ab))++[(210,.var 34 (kM [.f,.f,.f,.f,.f] (aS a0))),(211,.var 34 (kM [.z,.z,.z,.z,.z] (aS {dh with dV:=(⟨[]⟩:aV)})))]),214⟩) ?_ (by refine aK (dY (o:=212) (j:=1) 45 14 ζ) ?_;refine aK (wB 213 (([]:List aC).length)) ?_;refine aK (Lh (l:=213) 213 rfl (by simp)) ?_;exact wo)
  rintro⟨v2,v3⟩ o H
  refine ad ?_
  refine cC H ?_ ?_<;>intro H
  .obtain⟨x7,hx7,H⟩:=ob H
   obtain⟨r8,q8,H⟩:=ob H
   obtain⟨h,H⟩:=rq H
   refine AH ⟨[(1,tP 210),(2,tP 211),(3,tP 212),(4,tI v2)],(oT [.t,.x 213,.z,.z,.z] 212 34 (aS (⟨r1,(v3++[r8]),[],[],[],a0.cX,a0.d8,a0.oG,a0.jM⟩:ab))++[(210,.var 34 (kM [.f,.f,.f,.f,.f] (aS a0))),(211,.var 34 (kM [.z,.z,.z,.z,.z] (aS {dh with dV:=(⟨[]⟩:aV)})))]),217⟩ Try.follows ?_ ?_
   .refine sW 1 8 rfl ?_ ?_
    .refine sW 0 8 rfl ?_ ?_
     .refine tH [2,3,4,5,6,7,8,0,1,9,10,11] (by kernel_rfl) (by kernel_rfl) rfl ?_
      refine wI ?_
      refine zA (xdT (enc:=di) hx7) ?_
      refine zA (cu (hF:=zy36 q8)) ?_
      refine zB (aK (sa 214) (sa 215)) (jP rfl obT) cr ?_
      refine zB cr (jP rfl (Xg (enc:=di) (ys:=v3) (a:=r8) h)) cr ?_
      refine wA (spx 100076) ?_
      refine aK (gA 213) ?_
      exact wo
     refine tH [0,2,3,4,5,6,7,8,1,9,10,11] (by kernel_rfl) (by kernel_rfl) rfl ?_
     refine wI ?_
     refine zA (xdT (enc:=di) hx7) ?_
     refine zA (cu (hF:=zy36 q8)) ?_
     refine zB (aK (sa 214) (sa 215)) (jP rfl obT) cr ?_
     refine zB cr (jP rfl (Xg (enc:=di) (ys:=v3) (a:=r8) h)) cr ?_
     refine wA (spx 100077) ?_
     refine aK (gA 213) ?_
     exact wo
    refine tH [0,1,2,3,4,5,6,7,8,9,10,11] (by kernel_rfl) (by kernel_rfl) rfl ?_
    refine wI ?_
    refine zA (xdT (enc:=di) hx7) ?_
    refine zA (cu (hF:=zy36 q8)) ?_
    refine zB (aK (sa 214) (sa 215)) (jP rfl obT) cr ?_
    refine zB cr (jP rfl (Xg (enc:=di) (ys:=v3) (a:=r8) h)) cr ?_
    refine wA (spx 100078) ?_
    refine aK (gA 213) ?_
    exact wo
   refine wI ?_
   exact aN H
  exact aE H
 refine aa H λv13 Hj H=>jB ⟨[(1,tP 210),(2,tP 211),(3,tP 212)],(oT [.t,.x 213,.y 214,.z,.z] 212 34 (aS (⟨r1,v6,v13,[],[],a0.cX,a0.d8,a0.oG,a0.jM⟩:ab))++[(210,.var 34 (kM [.f,.f,.f,.f,.f] (aS a0))),(211,.var 34 (kM [.z,.z,.z,.z,.z] (aS {dh with dV:=(⟨[]⟩:aV)})))]),215⟩ ?_ ?_
 .refine iT Hj (λq=>⟨[(1,tP 210),(2,tP 211),(3,tP 212),(5,tI q.1)],(oT [.t,.x 213,.y 214,.z,.z] 212 34 (aS (⟨r1,v6,q.2,[],[],a0.cX,a0.d8,a0.oG,a0.jM⟩:ab))++[(210,.var 34 (kM [.f,.f,.f,.f,.f] (aS a0))),(211,.var 34 (kM [.z,.z,.z,.z,.z] (aS {dh with dV:=(⟨[]⟩:aV)})))]),215⟩) ?_ (by refine aK (dY (o:=212) (j:=2) 87 30 ζ) ?_;refine aK (wB 214 (([]:List ah).length)) ?_;exact wo)
  rintro⟨v9,v10⟩ o H
  refine ad ?_
  refine cC H ?_ ?_<;>intro H
  .refine zI (ZN 12) ?_
   refine aa H λx14 hx14 H=>zA (xdT (enc:=cO) hx14) ?_
   refine aa H λr15 q15 H=>zA (ca (hF:=(CO.h q15).frzs (by repeat (first|exact θ|refine⟨?_,?_⟩|exact lm _|rfl)))) ?_
   obtain⟨h,H⟩:=rq H
   refine zB cr (jP rfl (GU (enc:=cO) (ys:=v10) (zs:=[r15]) h (by first|exact abI _ _|simp) rfl (λ_=>rfl) (by first|rfl|simp) (.w rfl (by first|rfl|exact lm _|simp)) rfl rfl rfl rfl rfl rfl rfl rfl rfl rfl)) cr ?_
   refine wA (spx 100081) ?_
   cases H
   refine uU ?_
   refine aK (gA 214) ?_
   exact wo
  exact aE H
 refine aa H λv20 Hj H=>jB ⟨[(1,tP 210),(2,tP 211),(3,tP 212)],(oT [.t,.x 213,.y 214,.y 215,.z] 212 34 (aS (⟨r1,v6,v13,v20,[],a0.cX,a0.d8,a0.oG,a0.jM⟩:ab))++[(210,.var 34 (kM [.f,.f,.f,.f,.f] (aS a0))),(211,.var 34 (kM [.z,.z,.z,.z,.z] (aS {dh with dV:=(⟨[]⟩:aV)})))]),216⟩ ?_ ?_
 .refine iT Hj (λq=>⟨[(1,tP 210),(2,tP 211),(3,tP 212),(6,tI q.1)],(oT [.t,.x 213,.y 214,.y 215,.z] 212 34 (aS (⟨r1,v6,v13,q.2,[],a0.cX,a0.d8,a0.oG,a0.jM⟩:ab))++[(210,.var 34 (kM [.f,.f,.f,.f,.f] (aS a0))),(211,.var 34 (kM [.z,.z,.z,.z,.z] (aS {dh with dV:=(⟨[]⟩:aV)})))]),216⟩) ?_ (by refine aK (dY (o:=212) (j:=3) 55 4 ζ) ?_;refine aK (wB 215 (([]:List am).length)) ?_;exact wo)
  rintro⟨v16,v17⟩ o H
  refine ad ?_
  refine cC H ?_ ?_<;>intro H
  .refine zI (ZN 12) ?_
   refine aa H λx21 hx21 H=>zA (xdT (enc:=cS) hx21) ?_
   refine aa H λr22 q22 H=>zA (ca (hF:=(KS.h q22).frzs (by repeat (first|exact θ|refine⟨?_,?_⟩|exact lm _|rfl)))) ?_
   obtain⟨h,H⟩:=rq H
   refine zB cr (jP rfl (GU (enc:=cS) (ys:=v17) (zs:=[r22]) h (by first|exact abI _ _|simp) rfl (λ_=>rfl) (by first|rfl|simp) (.w rfl (by first|rfl|exact lm _|simp)) rfl rfl rfl rfl rfl rfl rfl rfl rfl rfl)) cr ?_
   refine wA (spx 100086) ?_
   cases H
   refine uU ?_
   refine aK (gA 215) ?_
   exact wo
  exact aE H
 refine aa H λv27 Hj H=>jB ⟨[(2,tP 211),(3,tP 212)],(oT [.t,.x 213,.y 214,.y 215,.y 216] 212 34 (aS (⟨r1,v6,v13,v20,v27,a0.cX,a0.d8,a0.oG,a0.jM⟩:ab))++[(211,.var 34 (kM [.z,.z,.z,.z,.z] (aS {dh with dV:=(⟨[]⟩:aV)})))]),217⟩ ?_ ?_
 .refine iT Hj (λq=>⟨[(1,tP 210),(2,tP 211),(3,tP 212),(7,tI q.1)],(oT [.t,.x 213,.y 214,.y 215,.y 216] 212 34 (aS (⟨r1,v6,v13,v20,q.2,a0.cX,a0.d8,a0.oG,a0.jM⟩:ab))++[(210,.var 34 (kM [.f,.f,.f,.f,.f] (aS a0))),(211,.var 34 (kM [.z,.z,.z,.z,.z] (aS {dh with dV:=(⟨[]⟩:aV)})))]),217⟩) ?_ (by refine aK (dY (o:=212) (j:=4) 71 21 ζ) ?_;refine aK (wB 216 (([]:List bT).length)) ?_;exact wo)
  rintro⟨v23,v24⟩ o H
  refine ad ?_
  refine cC H ?_ ?_<;>intro H
  .refine zI (ZN 12) ?_
   refine aa H λx28 hx28 H=>zA (xdT (enc:=eU) hx28) ?_
   refine aa H λr29 q29 H=>zA (ca (hF:=(yV.h q29).frzs (by repeat (first|exact θ|refine⟨?_,?_⟩|exact lm _|rfl)))) ?_
   obtain⟨h,H⟩:=rq H
   refine zB cr (jP rfl (GU (enc:=eU) (ys:=v24) (zs:=[r29]) h (by first|exact abI _ _|simp) rfl (λ_=>rfl) (by first|rfl|simp) (.w rfl (by first|rfl|exact lm _|simp)) rfl rfl rfl rfl rfl rfl rfl rfl rfl rfl)) cr ?_
   refine wA (spx 100091) ?_
   cases H
   refine uU ?_
   refine aK (gA 216) ?_
   exact wo
  exact aE H
 cases H
 refine ci (wT 213 210) ?_
 refine ci (wS 214 211) ?_
 refine ci (wS 215 212) ?_
 refine ci (wS 216 213) ?_
 exact dK
end Go.AM
