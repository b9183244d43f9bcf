/- A part. -/
import Derived.Test.YtgbcdgihmgapeaaGreatS81
import Derived.Test.YtgbcdgihmgapeaaGreatI0
import Derived.Test.YtgbcdgihmgapeaaGreatM0
import Derived.Test.YtgbcdgihmgapeaaGreatS18
import Derived.Test.YtgbcdgihmgapeaaGreatI0
set_option linter.unusedVariables false
set_option linter.unusedSimpArgs false
open Option renaming some->ς,none->ξ
open Bool renaming true->ζ,false->η
open True renaming intro->θ
open Option renaming bind->abG
open List renaming range->ZN
namespace Go.AM
open Go.Proofs
open Tryz
attribute [local irreducible] AWN NS AWO AWR AWC DR DZ cB eZ iter
set_option maxRecDepth 100000
set_option maxHeartbeats 4000000
def zy38(xd:aC)(k:Int)(p:bD):aC:={xd with bg:={xd.bg with aP:=xd.bg.aP.set k.toNat (⟨(([1]:List Int)++p.bb)⟩:bD)}}
def JU(a0:List Int)(n:ab)(d:aC)(i:Int):Option Bool:=
 abG (zy35 n []) λx=>abG (lat a0 0) λc=>cond (!eqB (d.bg.aP.length:Int) 0) (abG (ix x.aj i) λxd=>cond (!eqB (xd.bg.aP.length:Int) 0) (abG (ix d.bg.aP (Int.tmod c (d.bg.aP.length:Int))) λp=>cond (cW 1 (([1]:List Int)++p.bb).length) (abG (ix xd.bg.aP (Int.tmod c (d.bg.aP.length:Int))) λz=>abG (eM {x with aj:=x.aj.set i.toNat (zy38 xd (Int.tmod c (d.bg.aP.length:Int)) p)} i) λb=>cond b (ς ζ) (tQ {x with aj:=x.aj.set i.toNat (zy38 xd (Int.tmod c (d.bg.aP.length:Int)) p)})) ξ) ξ) ξ
def zy39(x:ab)(i:Int)(a:am):ab:={x with aU:=(x.aU.set i.toNat ({a with bm:=WR (a.bm-1)}:am)).set i.toNat ({a with bm:=WR (a.bm-1),dv:=WR (a.dv+1)}:am)}
def Bp(n:ab)(i:Int):Option Bool:=
 abG (zy35 n []) λx=>abG (ix x.aU i) λa=>abG (ei (zy39 x i a) i) λb=>cond b (ς ζ) (tQ (zy39 x i a))
def zy40(a0:List Int)(n:ab):Int->Option (ct Int Bool)
 |i=>cond (ltB i (n.aj.length:Int)) (abG (ix n.aj i) λd=>cond (ltB 0 (d.bg.aP.length:Int)) (abG (JU a0 n d i) λv=>cond v (dn (ς η)) (abG (ix n.aU i) λa=>cond (ltB 0 a.bm) (abG (Bp n i) λv=>cond v (dn (ς η)) (ς (.next (WR (i+1))))) (ς (.next (WR (i+1)))))) (abG (ix n.aU i) λa=>cond (ltB 0 a.bm) (abG (Bp n i) λv=>cond v (dn (ς η)) (ς (.next (WR (i+1))))) (ς (.next (WR (i+1)))))) (dn (tQ n))
def zy41(a0:List Int):Option Bool:=
 abG (XM a0) λr1=>cond r1 (ς ζ) (abG (zy30 a0) λn=>iter (zy40 a0 n) FU 0)
theorem zy42{a0:List Int}{r:Bool}(H:zy41 a0=ς r):Fn prog 3 [aL (a0.map eU8)] [.c (.d (.b r))]:=by
 refine fI func3 ntmps3 ?_
 refine aa H λb1 hb1 H=>nA (ca (hF:=XN.h hb1)) ?_
 refine cC H ?_ ?_<;>intro H
 .exact ao H
 refine aa H λn hn H=>sA (cwv [] [(210,0),(211,1),(212,2),(213,3)] 4 (zy31.h hn)) ?_
 refine iT H (λq=>⟨[(0,.v (.c (.d η (.l (a0.map eU8))))),(3,tP 4),(4,tI q)],[(4,.var 34 (kM [.t,.t,.t,.t,.t] (aS n)))],5⟩) ?_ (by refine aK (ev 0) ?_;refine aK (ev 1) ?_;refine aK (ev 2) ?_;refine aK (ev 3) ?_;exact wo)
 rintro i o H
 refine ad ?_
 refine cC H ?_ ?_<;>intro H
 .refine aa H λd hd H=>nA (xdT (enc:=di) hd) ?_
  refine cC H ?_ ?_<;>intro H
  .obtain⟨v,Hv,H⟩:=ob H
   obtain⟨x,hx,Hv⟩:=ob Hv
   refine ea (g7 (o:=6)) ?_
   refine ea (fN (k:=31)) ?_
   refine sA (cvt η [] [(210,7),(211,8),(212,9),(213,10)] [] [(210,11)] 11 12 (zy37 hx)) ?_
   refine zI (ZN 7) ?_
   obtain⟨c,hc,Hv⟩:=ob Hv
   refine zA (ca (hF:=lat_c.h hc)) ?_
   obtain⟨hne,Hv⟩:=rq Hv
   refine zA (ir rfl rfl rfl (by intro h;simp[h,eqB] at hne)) ?_
   refine wkb ?_
   obtain⟨xd,hxd,Hv⟩:=ob Hv
   obtain⟨hne2,Hv⟩:=rq Hv
   refine i8 (aK (wR 11 7) (C7 7 rfl (λh=>by have:=gk di hxd;rw[h] at this;simp at this))) ?_
   refine opn (enc:=di) (en2:=de) (zs:=xd.bg.aP) (j:=13) 7 1 hxd (λh=>by simp[h,eqB] at hne2) (λ_=>rfl) rfl rfl rfl rfl rfl rfl rfl rfl λty b cc=>?_
   refine zI (ZN 19) ?_
   refine zA (xwT hxd) ?_
   refine zA (oe (he:=List.getElem?_set_self (by have:=(List.getElem?_eq_some_iff.1 (gk di hxd)).1;exact this))) ?_
   obtain⟨p,hp,Hv⟩:=ob Hv
   refine zA (xdT (enc:=de) hp) ?_
   obtain⟨h,Hv⟩:=rq Hv
   refine wA (Wu (enc:=eU8) (ys:=([1]:List Int)) (zs:=p.bb) [14] h) ?_
   obtain⟨z,hz,Hv⟩:=ob Hv
   refine zA (xkT 13 hz) ?_
   refine oY (ds:=[14]) (by kernel_rfl) (by kernel_rfl) rfl (by kernel_rfl) (sa 15) (jP rfl (stL (enc:=de) (a':=(⟨(([1]:List Int)++p.bb)⟩:bD)) 13 hz)) cr rfl ?_
   refine wkb ?_
   refine ea (cls (a':=zy38 xd (Int.tmod c (d.bg.aP.length:Int)) p) 7 13 hxd rfl rfl (by simp) (show 13<14 by decide) rfl rfl rfl rfl rfl rfl rfl) ?_
   obtain⟨b1,hb1,Hv⟩:=ob Hv
   refine nA (ca (hF:=wq.h hb1)) ?_
   refine jR ⟨[(0,.v (.c (.d η (.l (a0.map eU8))))),(3,tP 4),(4,tI i),(63,tB v)],[(4,.var 34 (kM [.t,.t,.t,.t,.t] (aS n)))],16⟩ ?_ ?_
   .refine gC Hv (λHv=>?_) λHv=>?_
    .cases Hv
     exact wo
    refine nG (ca (hF:=yi.h Hv)) ?_
    exact wo
   refine cC H ?_ ?_<;>intro H
   .exact aQ H
   refine aa H λa ha H=>nA (xdT (enc:=cS) ha) ?_
   refine cC H ?_ ?_<;>intro H
   .obtain⟨v,Hv,H⟩:=ob H
    obtain⟨x,hx,Hv⟩:=ob Hv
    refine ea (g7 (o:=16)) ?_
    refine ea (fN (k:=72)) ?_
    refine sA (cwu [] [(210,17),(211,18),(212,19),(213,20)] 21 (yO.h hx)) ?_
    obtain⟨xa,hxa,Hv⟩:=ob Hv
    refine i8 (C7 19 rfl (λh=>by have:=gk cS hxa;rw[h] at this;simp at this)) ?_
    refine zI (ZN 13) ?_
    refine zA (xwT hxa) ?_
    refine zA (oe (he:=gk _ hxa)) ?_
    refine zA (xwT hxa) ?_
    refine zB cr (jP rfl (soT (enc:=cS) (a':={xa with bm:=WR (xa.bm-1)}) hxa)) cr ?_
    refine zI (ZN 13) ?_
    refine zA (xwT (ixS (b:={xa with bm:=WR (xa.bm-1)}) hxa)) ?_
    refine zA (oe (he:=gk _ (ixS hxa))) ?_
    refine zA (xwT (ixS (b:={xa with bm:=WR (xa.bm-1)}) hxa)) ?_
    refine zB cr (jP rfl (soT (enc:=cS) (a':={xa with bm:=WR (xa.bm-1),dv:=WR (xa.dv+1)}) (ixS hxa))) cr ?_
    obtain⟨b1,hb1,Hv⟩:=ob Hv
    refine nA (ca (hF:=mV.h hb1)) ?_
    refine jR ⟨[(0,.v (.c (.d η (.l (a0.map eU8))))),(3,tP 4),(4,tI i),(104,tB v)],[(4,.var 34 (kM [.t,.t,.t,.t,.t] (aS n)))],26⟩ ?_ ?_
    .refine gC Hv (λHv=>?_) λHv=>?_
     .cases Hv
      exact wo
     refine nG (ca (hF:=yi.h Hv)) ?_
     exact wo
    refine cC H ?_ ?_<;>intro H
    .exact aQ H
    exact aN H
   exact aN H
  refine aa H λa ha H=>nA (xdT (enc:=cS) ha) ?_
  refine cC H ?_ ?_<;>intro H
  .obtain⟨v,Hv,H⟩:=ob H
   obtain⟨x,hx,Hv⟩:=ob Hv
   refine ea (g7 (o:=6)) ?_
   refine ea (fN (k:=72)) ?_
   refine sA (cwu [] [(210,7),(211,8),(212,9),(213,10)] 11 (yO.h hx)) ?_
   obtain⟨xa,hxa,Hv⟩:=ob Hv
   refine i8 (C7 9 rfl (λh=>by have:=gk cS hxa;rw[h] at this;simp at this)) ?_
   refine zI (ZN 13) ?_
   refine zA (xwT hxa) ?_
   refine zA (oe (he:=gk _ hxa)) ?_
   refine zA (xwT hxa) ?_
   refine zB cr (jP rfl (soT (enc:=cS) (a':={xa with bm:=WR (xa.bm-1)}) hxa)) cr ?_
   refine zI (ZN 13) ?_
   refine zA (xwT (ixS (b:={xa with bm:=WR (xa.bm-1)}) hxa)) ?_
   refine zA (oe (he:=gk _ (ixS hxa))) ?_
   refine zA (xwT (ixS (b:={xa with bm:=WR (xa.bm-1)}) hxa)) ?_
   refine zB cr (jP rfl (soT (enc:=cS) (a':={xa with bm:=WR (xa.bm-1),dv:=WR (xa.dv+1)}) (ixS hxa))) cr ?_
   obtain⟨b1,hb1,Hv⟩:=ob Hv
   refine nA (ca (hF:=mV.h hb1)) ?_
   refine jR ⟨[(0,.v (.c (.d η (.l (a0.map eU8))))),(3,tP 4),(4,tI i),(104,tB v)],[(4,.var 34 (kM [.t,.t,.t,.t,.t] (aS n)))],16⟩ ?_ ?_
   .refine gC Hv (λHv=>?_) λHv=>?_
    .cases Hv
     exact wo
    refine nG (ca (hF:=yi.h Hv)) ?_
    exact wo
   refine cC H ?_ ?_<;>intro H
   .exact aQ H
   exact aN H
  exact aN H
 refine aR H λH=>?_
 refine nA (ca (hF:=yi.h H)) ?_
 exact kn
end Go.AM
