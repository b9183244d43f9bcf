/- A part. -/
import Derived.Test.YtfbpfflnhfcmaaaGreatG
set_option linter.unusedVariables false
open Option renaming some->ς,none->ξ
open Bool renaming true->ζ,false->η
open True renaming intro->θ
open Option renaming bind->acE
namespace Go.AM
open Go.Proofs
open Tryz
attribute [local irreducible] AWN NS AWO AWR AWC DR DZ du gr iter
set_option maxRecDepth 100000
set_option maxHeartbeats 40000000
def sZ(a0:List ab):(Int×List ab)->Option (ci (Int×List ab) (List ab))
 |(v1,v2)=>cond (ltB v1 (a0.length:Int)) (acE (ix a0 v1) λx6=>acE (ix a0 v1) λx7=>cond (cW 1 (([]:List Int)++x7.bk).length) (cond (cW 32 (v2++[(⟨x6.cX,(([]:List Int)++x7.bk)⟩:ab)]).length) (ς (.next (WR (v1+1),(v2++[(⟨x6.cX,(([]:List Int)++x7.bk)⟩:ab)])))) ξ) ξ) (ς (.done v2))
def wG(a0:List ab):Option (List ab):=
 acE (iter (sZ a0) FU (0,([]:List ab))) λ(v5:List ab)=>ς v5
instance abp{a0:List ab}{r:List ab}:FC prog (wG a0=ς r) 304 [aL (a0.map aX)] [.c (.own 100 2 (r.map aX) r.length)]:=⟨λH=>by
 refine fI func304 ntmps304 ?_
 refine aa H λv5 Hj H=>jB ⟨[(3,.v (.c (.w 0 v5.length)))],[(0,C0 v5)],1⟩ ?_ ?_
 .refine iT Hj (λq=>⟨[(0,.v (.c (.d η (.l (a0.map aX))))),(3,.v (.c (.w 0 q.2.length))),(4,tI q.1)],[(0,C0 q.2)],1⟩) ?_
  rintro⟨v1,v2⟩ o H
  refine ad ?_
  refine cC H ?_ ?_<;>intro H
  .refine zI (List.range 17) ?_
   refine aa H λx6 hx6 H=>zA (xdT (enc:=aX) hx6) ?_
   refine aa H λx7 hx7 H=>zA (xdT (enc:=aX) hx7) ?_
   obtain⟨h,H⟩:=rq H
   refine wA (Ic (enc:=eU8) (ys:=([]:List Int)) (zs:=x7.bk) [1] h) ?_
   obtain⟨h,H⟩:=rq H
   refine wA (apx (enc:=aX) (ys:=v2) (zs:=[(⟨x6.cX,(([]:List Int)++x7.bk)⟩:ab)]) [0,3] h) ?_
   refine oK (ds:=[1,0]) (by kernel_rfl) (by kernel_rfl) rfl ?_
   refine wI ?_
   cases H
   refine uj ?_
   refine aP (wS 0 4) ?_
   exact wo
  exact aE H
 cases H
 exact jJ⟩
def oc(a0:aV):Option aV:=
 acE (wG a0.aF) λr1=>ς (⟨a0.bB,r1⟩:aV)
instance pP{a0:aV}{r:aV}:FC prog (oc a0=ς r) 238 [.agg (fH a0)] [.agg (qM [.o] (dw r))]:=gG func238 ntmps238 (hz 1)
def lg(a0:List Int):(Int×List Int)->Option (ci (Int×List Int) (List Int))
 |(v1,v2)=>cond (ltB v1 (a0.length:Int)) (acE (ix a0 v1) λx5=>cond (cW 8 (v2++[WR (x5)]).length) (ς (.next (WR (v1+1),(v2++[WR (x5)])))) ξ) (ς (.done v2))
def sP(a0:List Int):Option (List Int):=
 acE (iter (lg a0) FU (0,[(a0.length:Int)])) λ(v4:List Int)=>ς v4
instance GH{a0:List Int}{r:List Int}:FC prog (sP a0=ς r) 256 [aL (a0.map eU8)] [.c (.own 3 1 (r.map eI) r.length)]:=gG func256 ntmps256 (hL 0 (λ(v:Int×List Int) sl ob nx=>⟨(3,.v (.c (.w 0 v.2.length)))::(4,tI v.1)::xS [0] sl,[(0,w3 v.2)]++ob,nx⟩)) (hB 0 (λ(v:List Int) sl ob nx=>⟨(3,.v (.c (.w 0 v.length)))::(4,.any)::xS [0] sl,[(0,w3 v)]++ob,nx⟩))
def CK(a0:List aH)(a1:Int)(a2:Int):Option (List aH):=
 cond (cW 16 (([]:List aH)++a0).length) (acE (ix a0 a1) λx1=>cond (ltB a2 x1.ea) (acE (ix a0 a1) λx2=>acE (ix (([]:List aH)++a0) a1) λx3=>ς ((([]:List aH)++a0).set (a1).toNat (⟨x3.aO,WR (x2.ea-a2)⟩:aH))) (cond (em (([]:List aH)++a0) 0 a1) (cond (em a0 (WR (a1+1)) a0.length) (cond (cW 16 ((([]:List aH)++a0).take (a1).toNat++(a0.drop (WR (a1+1)).toNat)).length) (ς ((([]:List aH)++a0).take (a1).toNat++(a0.drop (WR (a1+1)).toNat))) ξ) ξ) ξ)) ξ
instance sl16Cut_c{a0:List aH}{a1:Int}{a2:Int}{r:List aH}:FC prog (CK a0 a1 a2=ς r) 370 [aL (a0.map cf),aI a1,aI a2] [.c (.own 165 2 (r.map cf) r.length)]:=⟨λH=>by
 refine fI func370 ntmps370 ?_
 obtain⟨h,H⟩:=rq H
 refine fR rfl (apT (enc:=cf) (ys:=([]:List aH)) (zs:=a0) h) ?_
 refine aW (Az (enc:=cf) (o:=0)) ?_
 refine aa H λx1 hx1 H=>nA (xdT (enc:=cf) hx1) ?_
 refine cC H ?_ ?_<;>intro H
 .refine aa H λx2 hx2 H=>nA (xdT (enc:=cf) hx2) ?_
  refine aa H λx3 hx3 H=>nA (xwT hx3) ?_
  refine sA (soT (enc:=cf) (a':=(⟨x3.aO,WR (x2.ea-a2)⟩:aH)) hx3) ?_
  exact ao H
 refine zI (List.range 9) ?_
 obtain⟨hs2,H⟩:=rq H
 refine zA (cwfT (enc:=cf) hs2 (by first|rfl|simp) rfl rfl rfl rfl) ?_
 obtain⟨h,H⟩:=rq H
 refine zA (UE (enc:=cf) h (λ_=>rfl) rfl rfl rfl) ?_
 obtain⟨h,H⟩:=rq H
 refine wA (apxPF (enc:=cf) (h:=a1) (ys:=(([]:List aH)++a0)) (zs:=a0.drop (WR (a1+1)).toNat) [0] hs2 h rfl (λ_=>rfl) (λ_=>rfl) rfl .d rfl rfl rfl rfl rfl rfl) ?_
 refine oK (ds:=[0]) (by kernel_rfl) (by kernel_rfl) rfl ?_
 refine wI ?_
 cases H
 exact jJ⟩
def jo(a0:aV)(a1:Int):(Int×List ab)->Option (ci (Int×List ab) (List ab))
 |(v2,v3)=>cond (ltB v2 (a0.aF.length:Int)) (acE (ix a0.aF v2) λx9=>acE (cond (leB a1 x9.cX) (acE (ix a0.aF v2) λx11=>acE (ix a0.aF v2) λx12=>cond (cW 1 (([]:List Int)++x12.bk).length) (cond (cW 32 (v3++[(⟨x11.cX,(([]:List Int)++x12.bk)⟩:ab)]).length) (ς (v3++[(⟨x11.cX,(([]:List Int)++x12.bk)⟩:ab)])) ξ) ξ) (ς v3)) λ(v10:List ab)=>ς (.next (WR (v2+1),v10))) (ς (.done v3))
def jn(a0:aV)(a1:Int):Option aV:=
 acE (oc a0) λr1=>cond (ltB a0.bB a1) (ς r1) (acE (iter (jo a0 a1) FU (0,([]:List ab))) λ(v8:List ab)=>ς (⟨r1.bB,v8⟩:aV))
instance AI{a0:aV}{a1:Int}{r:aV}:FC prog (jn a0 a1=ς r) 369 [.agg (fH a0),aI a1] [.agg (qM [.o] (dw r))]:=⟨λH=>by
 refine fI func369 ntmps369 ?_
 refine aa H λr1 q1 H=>nA (ca (hF:=pP.h q1)) ?_
 refine cC H ?_ ?_<;>intro H
 .exact ao H
 refine aa H λv8 Hj H=>jB ⟨[(4,tP 1),(5,tP 3)],(oM [.w 4] 3 89 (dw (⟨r1.bB,v8⟩:aV))++[(1,.var 89 (kM [.z] (dw kT)))]),5⟩ ?_ ?_
 .refine iT Hj (λq=>⟨[(1,tI a1),(2,tP 0),(4,tP 1),(5,tP 3),(6,tI q.1)],(oM [.w 4] 3 89 (dw (⟨r1.bB,q.2⟩:aV))++[(0,.var 89 (kM [.f] (dw a0))),(1,.var 89 (kM [.z] (dw kT)))]),5⟩) ?_ (by refine aP (wB 4 (([]:List ab).length)) ?_;exact wo)
  rintro⟨v2,v3⟩ o H
  refine ad ?_
  refine cC H ?_ ?_<;>intro H
  .refine aa H λx9 hx9 H=>nA (xdT (enc:=aX) hx9) ?_
   refine aa H λv10 Hj H=>jA ⟨[(1,tI a1),(2,tP 0),(4,tP 1),(5,tP 3),(6,tI v2)],(oM [.w 4] 3 89 (dw (⟨r1.bB,v10⟩:aV))++[(0,.var 89 (kM [.f] (dw a0))),(1,.var 89 (kM [.z] (dw kT)))]),5⟩ ?_ ?_
   .refine cC Hj ?_ ?_<;>intro H
    .refine zI (List.range 21) ?_
     refine aa H λx11 hx11 H=>zA (xdT (enc:=aX) hx11) ?_
     refine aa H λx12 hx12 H=>zA (xdT (enc:=aX) hx12) ?_
     obtain⟨h,H⟩:=rq H
     refine wA (Ic (enc:=eU8) (ys:=([]:List Int)) (zs:=x12.bk) [5] h) ?_
     obtain⟨h,H⟩:=rq H
     refine qv (ds:=[5]) (by kernel_rfl) (by kernel_rfl) rfl (by kernel_rfl) cA (kz rfl (apT (enc:=aX) (ys:=v3) (zs:=[(⟨x11.cX,(([]:List Int)++x12.bk)⟩:ab)]) h)) cA rfl ?_
     refine wI ?_
     refine wA (spx 100434) ?_
     exact ai H
    exact ai H
   exact aN H
  exact aE H
 cases H
 exact jJ⟩
def AY:(ByteArray×Int)->Option (ci (ByteArray×Int) (ByteArray))
 |(v1,v2)=>cond (!eqB v2 0) (acE (cond (ltB (Int.tmod v2 10) 0) (ς (WR (0-(Int.tmod v2 10)))) (ς (Int.tmod v2 10))) λ(v5:Int)=>cond (Td (rD [IntKind.u8.wrap (WR (48+v5))]) v1) (ς (.next ((rD [IntKind.u8.wrap (WR (48+v5))])++v1,WR (Int.tdiv v2 10)))) ξ) (ς (.done v1))
def xA(a0:Int):Option ByteArray:=
 cond (eqB a0 0) (ς ⟨#[48]⟩) (acE (iter (AY) FU (⟨#[]⟩,a0)) λ(v4:ByteArray)=>cond (ltB a0 0) (cond (Td (⟨#[45]⟩:ByteArray) v4) (ς ((⟨#[45]⟩:ByteArray)++v4)) ξ) (ς v4))
instance Ky{a0:Int}{r:ByteArray}:FC prog (xA a0=ς r) 365 [aI a0] [.c (.d (.str r))]:=⟨λH=>by
 refine fI func365 ntmps365 ?_
 refine cC H ?_ ?_<;>intro H
 .exact ao H
 refine aa H λv4 Hj H=>jB ⟨[(0,tI a0),(3,tS v4)],[],0⟩ ?_ ?_
 .refine iT Hj (λq=>⟨[(0,tI a0),(3,tS q.1),(4,tI q.2)],[],0⟩) ?_
  rintro⟨v1,v2⟩ o H
  refine ad ?_
  refine cC H ?_ ?_<;>intro H
  .refine nA (ir rfl rfl rfl (by decide)) ?_
   refine aa H λv5 Hj H=>jA ⟨[(0,tI a0),(3,tS v1),(4,tI v2),(5,tI v5)],[],0⟩ ?_ ?_
   .exact az Hj
   refine nA (bt2 (xs:=[IntKind.u8.wrap (WR (48+v5))]) rfl rfl (by first|rfl|simp) rfl) ?_
   obtain⟨h,H⟩:=rq H
   refine nA (saT h) ?_
   refine nA (iq rfl rfl rfl (by decide)) ?_
   exact aN H
  exact aE H
 refine cC H ?_ ?_<;>intro H
 .obtain⟨h,H⟩:=rq H
  refine nA (saT h) ?_
  exact ao H
 cases H
 exact jJ⟩
def zy(a0:Int):Option (List Int):=
 acE (xA (WR (a0*7))) λr1=>ς (obS r1)
instance G3{a0:Int}{r:List Int}:FC prog (zy a0=ς r) 327 [aI a0] [.c (.d (.l (r.map eU8)))]:=⟨λH=>by
 refine fI func327 ntmps327 ?_
 refine aa H λr1 q1 H=>nA (ca (hF:=Ky.h q1)) ?_
 refine nA cvb ?_
 cases H
 exact jJ⟩
end Go.AM
