/- A part. -/
import Derived.Test.YtigcecmbknoijaaGreatDoorG
set_option linter.unusedVariables false
open Option renaming some->ς,none->ξ
open Bool renaming true->ζ,false->η
open True renaming intro->θ
open Option renaming bind->ZS
namespace Go.AM
open Go.Proofs
open Tryz
attribute [local irreducible] AWN NS AWO AWR AWC DR DZ cM eN iter
set_option maxRecDepth 100000
set_option maxHeartbeats 40000000
def yV(a0:List aG)(a1:Int)(a2:Int):Option (List aG):=
 cond (cN 16 (([]:List aG)++a0).length) (ZS (ix a0 a1) λx1=>cond (ltB a2 x1.dV) (ZS (ix a0 a1) λx2=>ZS (ix (([]:List aG)++a0) a1) λx3=>ς ((([]:List aG)++a0).set (a1).toNat (⟨x3.aH,WR (x2.dV-a2)⟩:aG))) (cond (fa (([]:List aG)++a0) 0 a1) (cond (fa a0 (WR (a1+1)) a0.length) (cond (cN 16 ((([]:List aG)++a0).take (a1).toNat++(a0.drop (WR (a1+1)).toNat)).length) (ς ((([]:List aG)++a0).take (a1).toNat++(a0.drop (WR (a1+1)).toNat))) ξ) ξ) ξ)) ξ
instance sl16Cut_c{a0:List aG}{a1:Int}{a2:Int}{r:List aG}:FC prog (yV a0 a1 a2=ς r) 110 [aL (a0.map bT),aI a1,aI a2] [.c (.own 99 2 (r.map bT) r.length)]:=⟨λH=>by
 refine fI func110 ntmps110 ?_
 obtain⟨h,H⟩:=rq H
 refine eV rfl (apT (enc:=bT) (ys:=([]:List aG)) (zs:=a0) h) ?_
 refine aW (wL (enc:=bT) (o:=0)) ?_
 refine aa H λx1 hx1 H=>nA (xdT (enc:=bT) hx1) ?_
 refine cC H ?_ ?_<;>intro H
 .refine aa H λx2 hx2 H=>nA (xdT (enc:=bT) hx2) ?_
  refine aa H λx3 hx3 H=>nA (xwT hx3) ?_
  refine sA (soT (enc:=bT) (a':=(⟨x3.aH,WR (x2.dV-a2)⟩:aG)) hx3) ?_
  exact ao H
 refine zI (List.range 9) ?_
 obtain⟨hs2,H⟩:=rq H
 refine zA (cwfT (enc:=bT) hs2 (by first|rfl|simp) rfl rfl rfl rfl) ?_
 obtain⟨h,H⟩:=rq H
 refine zA (Pn (enc:=bT) h (λ_=>rfl) rfl rfl rfl) ?_
 obtain⟨h,H⟩:=rq H
 refine wA (apxPF (enc:=bT) (h:=a1) (ys:=(([]:List aG)++a0)) (zs:=a0.drop (WR (a1+1)).toNat) [0] hs2 h rfl (λ_=>rfl) (λ_=>rfl) rfl .d rfl rfl rfl rfl rfl rfl) ?_
 refine lA (ds:=[0]) (by kernel_rfl) (by kernel_rfl) rfl ?_
 refine wI ?_
 cases H
 exact dK⟩
def jO:(ByteArray×Int)->Option (cH (ByteArray×Int) (ByteArray))
 |(v1,v2)=>cond (!eqB v2 0) (ZS (cond (ltB (Int.tmod v2 10) 0) (ς (WR (0-(Int.tmod v2 10)))) (ς (Int.tmod v2 10))) λ(v5:Int)=>cond (eT (mz [IntKind.u8.wrap (WR (48+v5))]) v1) (ς (.next ((mz [IntKind.u8.wrap (WR (48+v5))])++v1,WR (Int.tdiv v2 10)))) ξ) (ς (.done v1))
def fC(a0:Int):Option ByteArray:=
 cond (eqB a0 0) (ς ⟨#[48]⟩) (ZS (iter (jO) FU (⟨#[]⟩,a0)) λ(v4:ByteArray)=>cond (ltB a0 0) (cond (eT (⟨#[45]⟩:ByteArray) v4) (ς ((⟨#[45]⟩:ByteArray)++v4)) ξ) (ς v4))
instance Gc{a0:Int}{r:ByteArray}:FC prog (fC a0=ς r) 8 [aI a0] [.c (.d (.str r))]:=⟨λH=>by
 refine fI func8 ntmps8 ?_
 refine cC H ?_ ?_<;>intro H
 .exact ao H
 refine aa H λv4 Hj H=>jB ⟨[(0,tI a0),(3,tS v4)],[],0⟩ ?_ ?_
 .refine iT Hj (λq=>⟨[(0,tI a0),(3,tS q.1),(4,tI q.2)],[],0⟩) ?_
  rintro⟨v1,v2⟩ o H
  refine ad ?_
  refine cC H ?_ ?_<;>intro H
  .refine nA (ir rfl rfl rfl (by decide)) ?_
   refine aa H λv5 Hj H=>jA ⟨[(0,tI a0),(3,tS v1),(4,tI v2),(5,tI v5)],[],0⟩ ?_ ?_
   .exact az Hj
   refine nA (bt2 (xs:=[IntKind.u8.wrap (WR (48+v5))]) rfl rfl (by first|rfl|simp) rfl) ?_
   obtain⟨h,H⟩:=rq H
   refine nA (saT h) ?_
   refine nA (iq rfl rfl rfl (by decide)) ?_
   exact aN H
  exact aE H
 refine cC H ?_ ?_<;>intro H
 .obtain⟨h,H⟩:=rq H
  refine nA (saT h) ?_
  exact ao H
 cases H
 exact dK⟩
def pC(a0:List ab):(Int×List ab)->Option (cH (Int×List ab) (List ab))
 |(v1,v2)=>cond (ltB v1 (a0.length:Int)) (ZS (ix a0 v1) λx6=>ZS (ix a0 v1) λx7=>cond (cN 1 (([]:List Int)++x7.bm).length) (cond (cN 32 (v2++[(⟨x6.c9,(([]:List Int)++x7.bm)⟩:ab)]).length) (ς (.next (WR (v1+1),(v2++[(⟨x6.c9,(([]:List Int)++x7.bm)⟩:ab)])))) ξ) ξ) (ς (.done v2))
def sW(a0:List ab):Option (List ab):=
 ZS (iter (pC a0) FU (0,([]:List ab))) λ(v5:List ab)=>ς v5
instance VW{a0:List ab}{r:List ab}:FC prog (sW a0=ς r) 182 [aL (a0.map aY)] [.c (.own 163 2 (r.map aY) r.length)]:=⟨λH=>by
 refine fI func182 ntmps182 ?_
 refine aa H λv5 Hj H=>jB ⟨[(3,.v (.c (.w 0 v5.length)))],[(0,I3 v5)],1⟩ ?_ ?_
 .refine iT Hj (λq=>⟨[(0,.v (.c (.d η (.l (a0.map aY))))),(3,.v (.c (.w 0 q.2.length))),(4,tI q.1)],[(0,I3 q.2)],1⟩) ?_
  rintro⟨v1,v2⟩ o H
  refine ad ?_
  refine cC H ?_ ?_<;>intro H
  .refine zI (List.range 17) ?_
   refine aa H λx6 hx6 H=>zA (xdT (enc:=aY) hx6) ?_
   refine aa H λx7 hx7 H=>zA (xdT (enc:=aY) hx7) ?_
   obtain⟨h,H⟩:=rq H
   refine wA (Dz (enc:=eU8) (ys:=([]:List Int)) (zs:=x7.bm) [1] h) ?_
   obtain⟨h,H⟩:=rq H
   refine wA (apx (enc:=aY) (ys:=v2) (zs:=[(⟨x6.c9,(([]:List Int)++x7.bm)⟩:ab)]) [0,3] h) ?_
   refine lA (ds:=[1,0]) (by kernel_rfl) (by kernel_rfl) rfl ?_
   refine wI ?_
   cases H
   refine qF ?_
   refine aJ (wS 0 4) ?_
   exact wo
  exact aE H
 cases H
 exact dK⟩
def jD(a0:List Int):(Int×List Int)->Option (cH (Int×List Int) (List Int))
 |(v1,v2)=>cond (ltB v1 (a0.length:Int)) (ZS (ix a0 v1) λx5=>cond (cN 8 (v2++[WR (x5)]).length) (ς (.next (WR (v1+1),(v2++[WR (x5)])))) ξ) (ς (.done v2))
def pm(a0:List Int):Option (List Int):=
 ZS (iter (jD a0) FU (0,[(a0.length:Int)])) λ(v4:List Int)=>ς v4
instance Cn{a0:List Int}{r:List Int}:FC prog (pm a0=ς r) 212 [aL (a0.map eU8)] [.c (.own 3 1 (r.map eI) r.length)]:=gG func212 ntmps212 (hL 0 (λ(v:Int×List Int) sl ob nx=>⟨(3,.v (.c (.w 0 v.2.length)))::(4,tI v.1)::xS [0] sl,[(0,w3 v.2)]++ob,nx⟩)) (hB 0 (λ(v:List Int) sl ob nx=>⟨(3,.v (.c (.w 0 v.length)))::(4,.any)::xS [0] sl,[(0,w3 v)]++ob,nx⟩))
def sX(a0:Int):Option (List Int):=
 ZS (fC (WR (a0*7))) λr1=>ς (obS r1)
instance CI{a0:Int}{r:List Int}:FC prog (sX a0=ς r) 88 [aI a0] [.c (.d (.l (r.map eU8)))]:=⟨λH=>by
 refine fI func88 ntmps88 ?_
 refine aa H λr1 q1 H=>nA (ca (hF:=Gc.h q1)) ?_
 refine nA cvb ?_
 cases H
 exact dK⟩
def lZ(a0:be):Option be:=
 ZS (sW a0.aM) λr1=>ς (⟨a0.bF,r1⟩:be)
instance nm{a0:be}{r:be}:FC prog (lZ a0=ς r) 145 [.agg (mA a0)] [.agg (qM [.o] (dt r))]:=gG func145 ntmps145 (hz 1)
def iy(a0:be)(a1:Int):(Int×List ab)->Option (cH (Int×List ab) (List ab))
 |(v2,v3)=>cond (ltB v2 (a0.aM.length:Int)) (ZS (ix a0.aM v2) λx9=>ZS (cond (leB a1 x9.c9) (ZS (ix a0.aM v2) λx11=>ZS (ix a0.aM v2) λx12=>cond (cN 1 (([]:List Int)++x12.bm).length) (cond (cN 32 (v3++[(⟨x11.c9,(([]:List Int)++x12.bm)⟩:ab)]).length) (ς (v3++[(⟨x11.c9,(([]:List Int)++x12.bm)⟩:ab)])) ξ) ξ) (ς v3)) λ(v10:List ab)=>ς (.next (WR (v2+1),v10))) (ς (.done v3))
def iw(a0:be)(a1:Int):Option be:=
 ZS (lZ a0) λr1=>cond (ltB a0.bF a1) (ς r1) (ZS (iter (iy a0 a1) FU (0,([]:List ab))) λ(v8:List ab)=>ς (⟨r1.bF,v8⟩:be))
instance wW{a0:be}{a1:Int}{r:be}:FC prog (iw a0 a1=ς r) 148 [.agg (mA a0),aI a1] [.agg (qM [.o] (dt r))]:=⟨λH=>by
 refine fI func148 ntmps148 ?_
 refine aa H λr1 q1 H=>nA (ca (hF:=nm.h q1)) ?_
 refine cC H ?_ ?_<;>intro H
 .exact ao H
 refine aa H λv8 Hj H=>jB ⟨[(4,tP 1),(5,tP 3)],(oM [.w 4] 3 72 (dt (⟨r1.bF,v8⟩:be))++[(1,.var 72 (kM [.z] (dt jx)))]),5⟩ ?_ ?_
 .refine iT Hj (λq=>⟨[(1,tI a1),(2,tP 0),(4,tP 1),(5,tP 3),(6,tI q.1)],(oM [.w 4] 3 72 (dt (⟨r1.bF,q.2⟩:be))++[(0,.var 72 (kM [.f] (dt a0))),(1,.var 72 (kM [.z] (dt jx)))]),5⟩) ?_ (by refine aJ (wB 4 (([]:List ab).length)) ?_;exact wo)
  rintro⟨v2,v3⟩ o H
  refine ad ?_
  refine cC H ?_ ?_<;>intro H
  .refine aa H λx9 hx9 H=>nA (xdT (enc:=aY) hx9) ?_
   refine aa H λv10 Hj H=>jA ⟨[(1,tI a1),(2,tP 0),(4,tP 1),(5,tP 3),(6,tI v2)],(oM [.w 4] 3 72 (dt (⟨r1.bF,v10⟩:be))++[(0,.var 72 (kM [.f] (dt a0))),(1,.var 72 (kM [.z] (dt jx)))]),5⟩ ?_ ?_
   .refine cC Hj ?_ ?_<;>intro H
    .refine zI (List.range 21) ?_
     refine aa H λx11 hx11 H=>zA (xdT (enc:=aY) hx11) ?_
     refine aa H λx12 hx12 H=>zA (xdT (enc:=aY) hx12) ?_
     obtain⟨h,H⟩:=rq H
     refine wA (Dz (enc:=eU8) (ys:=([]:List Int)) (zs:=x12.bm) [5] h) ?_
     obtain⟨h,H⟩:=rq H
     refine og (ds:=[5]) (by kernel_rfl) (by kernel_rfl) rfl (by kernel_rfl) cz (kh rfl (apT (enc:=aY) (ys:=v3) (zs:=[(⟨x11.c9,(([]:List Int)++x12.bm)⟩:ab)]) h)) cz rfl ?_
     refine wI ?_
     refine wA (spx 100358) ?_
     exact ai H
    exact ai H
   exact aN H
  exact aE H
 cases H
 exact dK⟩
end Go.AM
