/- A part. -/
import Derived.Test.YtmginjngmidkbaaGreatG
set_option linter.unusedVariables false
open Option renaming bind->abU
open List renaming replicate->aag
namespace Go.AM
open Go.Proofs
open Tryz
attribute [local irreducible] AWN NS AWO AWR AWC DR ea gL
set_option maxRecDepth 100000
set_option maxHeartbeats 40000000
variable {a1:Int} {r:Bool}
def b9 (a0:Int) (a1:Int) (a2:Int):Option Bool:=
 abU (bif leB a1 a0 then(some (leB a0 a2)) else(some false)) λ(v1:Bool)=>some v1
theorem bX {a0:Int} {a2:Int} (H:b9 a0 a1 a2=some r):Fn prog 36 [aI a0,aI a1,aI a2] [.c (.d (.b r))]:=by
 refine fI func36 ntmps36 ?_
 refine aa H λv1 Hj H=>jR ⟨[(6,tB v1)],[],0⟩ ?_ ?_
 .exact az Hj
 exact ao H
def kP (a0:aS) (a1:Int):Option Bool:=
 abU (b9 a1 0 (WR ((a0.aX.length:Int)-1))) λr1=>some r1
theorem rT {a0:aS} (H:kP a0 a1=some r):Fn prog 47 [.agg (iw a0),aI a1] [.c (.d (.b r))]:=by
 refine fI func47 ntmps47 ?_
 refine aa H λr1 q1 H=>nA (ca (hF:=bX q1)) ?_
 exact ao H
def kf (a0:List Int):Int->Option (cq (Int) (Bool))
 |v1=>bif ltB v1 (a0.length:Int) then(abU (ix a0 (WR (v1-1))) λx2=>abU (ix a0 v1) λx3=>bif leB x3 x2 then(dn (some false)) else(some (.next (WR (v1+1))))) else(dn (some true))
def ox (a0:List Int):Option Bool:=
 iter (kf a0) FU 1
theorem yz {a0:List Int} (H:ox a0=some r):Fn prog 103 [aL (a0.map eI)] [.c (.d (.b r))]:=by
 refine fI func103 ntmps103 ?_
 refine iT H (λq=>⟨[(0,.v (.c (.d false (.l (a0.map eI))))),(3,tI q)],[],0⟩) ?_
 rintro v1 o H
 refine ad ?_
 refine cC H ?_ ?_<;>intro H
 .refine dI ?_
  refine aa H λx2 hx2 H=>dA (xdT (enc:=eI) hx2) ?_
  refine aa H λx3 hx3 H=>dA (xdT (enc:=eI) hx3) ?_
  refine wI ?_
  refine cC H ?_ ?_<;>intro H
  .exact aQ H
  exact aN H
 exact aQ H
def jM (a0:bN):Option Bool:=
 abU (b9 a0.fo 1 6) λr1=>abU (bif r1 then(bif leB 0 a0.fo then(abU (b9 a0.fj 0 (WR ((lJ .i64 1 a0.fo)-1))) λr3=>some r3) else none) else(some false)) λ(v2:Bool)=>some v2
theorem Gu {a0:bN} (H:jM a0=some r):Fn prog 45 [.agg (nR a0)] [.c (.d (.b r))]:=by
 refine fI func45 ntmps45 ?_
 refine dI ?_
 refine aa H λr1 q1 H=>dA (ca (hF:=bX q1)) ?_
 refine aa H λv2 Hj H=>fA ⟨[(2,tB v2)],[],0⟩ ?_ ?_
 .have H:=Hj
  refine wI ?_
  refine dC H ?_ ?_<;>intro H
  .obtain⟨h,H⟩:=rq H
   refine dG (Ig h rfl rfl rfl rfl) ?_
   refine aa H λr3 q3 H=>dG (ca (hF:=bX q3)) ?_
   refine wI ?_
   exact ai H
  refine wI ?_
  exact ai H
 refine wI ?_
 exact ao H
def ou (a0:am):(Int×Int)->Option (cq (Int×Int) (Int))
 |(v1,v2)=>bif ltB v2 (a0.aj.length:Int) then(abU (ix a0.aj v2) λx5=>some (.next (WR (v1+x5.d8),WR (v2+1)))) else(some (.done v1))
def ot (a0:am):Option Int:=
 abU (iter (ou a0) FU (0,0)) λ(v4:Int)=>some v4
theorem Ds {a0:am} {r:Int} (H:ot a0=some r):Fn prog 53 [.agg (cN a0)] [.c (.d (.i .i64 r))]:=by
 refine fI func53 ntmps53 ?_
 refine aa H λv4 Hj H=>jB ⟨[(3,tI v4)],[],0⟩ ?_ ?_
 .refine iT Hj (λq=>⟨[(3,tI q.1),(7,.v (.c (.d false (.l (a0.aj.map bv))))),(8,tI (a0.aj.length:Int)),(9,tI q.2)],[],0⟩) ?_
  rintro⟨v1,v2⟩ o H
  refine ad ?_
  refine cC H ?_ ?_<;>intro H
  .refine aa H λx5 hx5 H=>nA (xdT (enc:=bv) hx5) ?_
   exact aN H
  exact aE H
 exact ao H
def jL (a0:am):Int->Option (cq (Int) (Bool))
 |v5=>bif ltB v5 (a0.aj.length:Int) then(abU (ix a0.aj v5) λx6=>abU (bif ltB x6.aG 0 then(some true) else(abU (b9 x6.d8 1 100000) λr8=>some (!r8))) λ(v7:Bool)=>bif v7 then(dn (some false)) else(abU (bif ltB 0 v5 then(abU (ix a0.aj (WR (v5-1))) λx10=>some (leB x6.aG x10.aG)) else(some false)) λ(v9:Bool)=>bif v9 then(dn (some false)) else(some (.next (WR (v5+1)))))) else(dn (abU (ot a0) λr11=>some (eqB (WR ((WR (a0.bJ+a0.eD))+r11)) a0.fw)))
def gX (a0:am):Option Bool:=
 abU (b9 a0.fw 0 100000) λr1=>abU (bif !r1 then(some true) else(abU (b9 a0.bJ 0 a0.fw) λr3=>bif !r3 then(some true) else(abU (b9 a0.eD 0 a0.fw) λr4=>some (!r4)))) λ(v2:Bool)=>bif v2 then(some false) else(bif ltB 8 (a0.aj.length:Int) then(some false) else(iter (jL a0) FU 0))
theorem tz {a0:am} (H:gX a0=some r):Fn prog 18 [.agg (cN a0)] [.c (.d (.b r))]:=by
 refine fI func18 ntmps18 ?_
 refine aa H λr1 q1 H=>nA (ca (hF:=bX q1)) ?_
 refine aa H λv2 Hj H=>jR ⟨[(1,tP 0),(24,tB v2)],[(0,.var 57 (kM [.f] (cZ a0)))],1⟩ ?_ ?_
 .refine gC Hj ?_ ?_<;>intro H
  .exact ai H
  refine aa H λr3 q3 H=>nG (ca (hF:=bX q3)) ?_
  refine gC H ?_ ?_<;>intro H
  .exact ai H
  refine aa H λr4 q4 H=>nG (ca (hF:=bX q4)) ?_
  exact ai H
 refine cC H ?_ ?_<;>intro H
 .exact ao H
 refine cC H ?_ ?_<;>intro H
 .exact ao H
 refine iT H (λq=>⟨[(1,tP 0),(30,.v (.c (.d false (.l (a0.aj.map bv))))),(31,tI (a0.aj.length:Int)),(32,tI q)],[(0,.var 57 (kM [.f] (cZ a0)))],1⟩) ?_
 rintro v5 o H
 refine ad ?_
 refine cC H ?_ ?_<;>intro H
 .refine aa H λx6 hx6 H=>nA (xdT (enc:=bv) hx6) ?_
  refine aa H λv7 Hj H=>jR ⟨[(1,tP 0),(3,tI v5),(4,tP 1),(30,.v (.c (.d false (.l (a0.aj.map bv))))),(31,tI (a0.aj.length:Int)),(32,tI v5),(45,tB v7)],[(0,.var 57 (kM [.f] (cZ a0))),(1,.var 115 (kM [] (H7 x6)))],2⟩ ?_ ?_
  .refine gC Hj ?_ ?_<;>intro H
   .exact ai H
   refine aa H λr8 q8 H=>nG (ca (hF:=bX q8)) ?_
   exact ai H
  refine cC H ?_ ?_<;>intro H
  .exact aQ H
  refine dI ?_
  refine aa H λv9 Hj H=>fA ⟨[(1,tP 0),(30,.v (.c (.d false (.l (a0.aj.map bv))))),(31,tI (a0.aj.length:Int)),(32,tI v5),(59,tB v9)],[(0,.var 57 (kM [.f] (cZ a0)))],1⟩ ?_ ?_
  .have H:=Hj
   refine wI ?_
   refine dC H ?_ ?_<;>intro H
   .refine aa H λx10 hx10 H=>dG (xdT (enc:=bv) hx10) ?_
    refine wI ?_
    exact ai H
   refine wI ?_
   exact ai H
  refine wI ?_
  refine cC H ?_ ?_<;>intro H
  .refine wI ?_
   exact aQ H
  refine wI ?_
  exact aN H
 refine aR H λH=>?_
 refine dI ?_
 refine aa H λr11 q11 H=>dA (ca (hF:=Ds q11)) ?_
 refine wI ?_
 exact ao H
def iY (a0:am) (a1:Int):Int->Option (cq (Int) (Int))
 |v1=>bif ltB v1 (a0.aj.length:Int) then(abU (ix a0.aj v1) λx2=>bif eqB x2.aG a1 then(dn (some v1)) else(some (.next (WR (v1+1))))) else(dn (some (-1)))
def f6 (a0:am) (a1:Int):Option Int:=
 iter (iY a0 a1) FU 0
theorem Al {a0:am} {r:Int} (H:f6 a0 a1=some r):Fn prog 55 [.agg (cN a0),aI a1] [.c (.d (.i .i64 r))]:=by
 refine fI func55 ntmps55 ?_
 refine iT H (λq=>⟨[(1,tI a1),(8,.v (.c (.d false (.l (a0.aj.map bv))))),(9,tI (a0.aj.length:Int)),(10,tI q)],[],0⟩) ?_
 rintro v1 o H
 refine ad ?_
 refine cC H ?_ ?_<;>intro H
 .refine aa H λx2 hx2 H=>nA (xdT (enc:=bv) hx2) ?_
  refine cC H ?_ ?_<;>intro H
  .exact aQ H
  exact aN H
 exact aQ H
def je (a0:cX):Option Bool:=
 abU (bif leB 0 a0.aG then(bif leB 0 a0.ev then(bif leB a0.ev a0.cG then(some (leB a0.cG 100000)) else(some false)) else(some false)) else(some false)) λ(v1:Bool)=>some v1
theorem mN {a0:cX} (H:je a0=some r):Fn prog 107 [.agg (pK a0)] [.c (.d (.b r))]:=by
 refine fI func107 ntmps107 ?_
 refine aa H λv1 Hj H=>jR ⟨[(2,tB v1)],[],0⟩ ?_ ?_
 .exact az Hj
 exact ao H
def sL (a0:List bM):Int->Option (cq (Int) (Bool))
 |v1=>bif ltB v1 (a0.length:Int) then(abU (ix a0 v1) λx2=>bif ltB 60 (x2.bg.length:Int) then(dn (some false)) else(some (.next (WR (v1+1))))) else(dn (some true))
def tH (a0:List bM):Option Bool:=
 iter (sL a0) FU 0
theorem Ay {a0:List bM} (H:tH a0=some r):Fn prog 171 [aL (a0.map da)] [.c (.d (.b r))]:=by
 refine fI func171 ntmps171 ?_
 refine iT H (λq=>⟨[(5,.v (.c (.d false (.l (a0.map da))))),(6,tI (a0.length:Int)),(7,tI q)],[],0⟩) ?_
 rintro v1 o H
 refine ad ?_
 refine cC H ?_ ?_<;>intro H
 .refine aa H λx2 hx2 H=>nA (xdT (enc:=da) hx2) ?_
  refine cC H ?_ ?_<;>intro H
  .exact aQ H
  exact aN H
 exact aQ H
def yk (a0:List Int) (a1:List Int):Option Bool:=
 abU (BR a0 a1) λr1=>some r1
theorem H8 {a0:List Int} {a1:List Int} (H:yk a0 a1=some r):Fn prog 172 [aL (a0.map eU8),aL (a1.map eU8)] [.c (.d (.b r))]:=by
 refine fI func172 ntmps172 ?_
 refine aa H λr1 q1 H=>nA (ca (hF:=Gn q1)) ?_
 exact ao H
def oB (a0:List ae):(Int×Int)->Option (cq (Int×Int) (Int))
 |(v1,v2)=>bif ltB v2 (a0.length:Int) then(abU (ix a0 v2) λx5=>some (.next (WR (v1+(x5.bg.length:Int)),WR (v2+1)))) else(some (.done v1))
def oA (a0:List ae):Option Int:=
 abU (iter (oB a0) FU (0,0)) λ(v4:Int)=>some v4
theorem Dv {a0:List ae} {r:Int} (H:oA a0=some r):Fn prog 243 [aL (a0.map an)] [.c (.d (.i .i64 r))]:=by
 refine fI func243 ntmps243 ?_
 refine aa H λv4 Hj H=>jB ⟨[(3,tI v4)],[],0⟩ ?_ ?_
 .refine iT Hj (λq=>⟨[(3,tI q.1),(6,.v (.c (.d false (.l (a0.map an))))),(7,tI (a0.length:Int)),(8,tI q.2)],[],0⟩) ?_
  rintro⟨v1,v2⟩ o H
  refine ad ?_
  refine cC H ?_ ?_<;>intro H
  .refine aa H λx5 hx5 H=>nA (xdT (enc:=an) hx5) ?_
   exact aN H
  exact aE H
 exact ao H
def fX (a0:List aH):Option (List aH):=
 bif qk 16 (a0.length:Int) (a0.length:Int) then(some (cpL (aag ((a0.length:Int)).toNat dJ) a0)) else none
theorem qa {a0:List aH} {r:List aH} (H:fX a0=some r):Fn prog 108 [aL (a0.map bv)] [.c (.own 115 2 (r.map bv) r.length)]:=by
 refine fI func108 ntmps108 ?_
 obtain⟨h,H⟩:=rq H
 refine nA (mkT (enc:=bv) (za:=dJ) h (by rfl)) ?_
 refine fG rfl (cpT (enc:=bv) (ys:=(aag ((a0.length:Int)).toNat dJ)) (zs:=a0) rfl (λ_=>rfl) (by first|rfl|simp) .d rfl rfl rfl rfl rfl) ?_
 refine aW (iR (enc:=bv) (o:=0)) ?_
 exact ao H
def rS (a0:List Int):Option (List Int):=
 bif qk 8 (a0.length:Int) (a0.length:Int) then(some (cpL (aag ((a0.length:Int)).toNat (0:Int)) a0)) else none
theorem Ei {a0:List Int} {r:List Int} (H:rS a0=some r):Fn prog 137 [aL (a0.map eI)] [.c (.own 3 1 (r.map eI) r.length)]:=by
 refine fI func137 ntmps137 ?_
 obtain⟨h,H⟩:=rq H
 refine nA (mkT (enc:=eI) (za:=0) h (by rfl)) ?_
 refine fG rfl (cpT (enc:=eI) (ys:=(aag ((a0.length:Int)).toNat (0:Int))) (zs:=a0) rfl (λ_=>rfl) (by first|rfl|simp) .d rfl rfl rfl rfl rfl) ?_
 refine aW (iR (enc:=eI) (o:=0)) ?_
 exact ao H
def eZ (a0:List Int):Option (List Int):=
 bif qk 1 (a0.length:Int) (a0.length:Int) then(some (cpL (aag ((a0.length:Int)).toNat (0:Int)) a0)) else none
theorem ow {a0:List Int} {r:List Int} (H:eZ a0=some r):Fn prog 221 [aL (a0.map eU8)] [.c (.own 5 1 (r.map eU8) r.length)]:=by
 refine fI func221 ntmps221 ?_
 obtain⟨h,H⟩:=rq H
 refine nA (mkT (enc:=eU8) (za:=0) h (by rfl)) ?_
 refine fG rfl (cpT (enc:=eU8) (ys:=(aag ((a0.length:Int)).toNat (0:Int))) (zs:=a0) rfl (λ_=>rfl) (by first|rfl|simp) .d rfl rfl rfl rfl rfl) ?_
 refine aW (iR (enc:=eU8) (o:=0)) ?_
 exact ao H
def qg (a0:ab) (a1:Int):Option (bF×ab):=
 abU (ix a0.aK a1) λx1=>bif qk 176 0 (a0.aK.length:Int) then(bif eT a0.aK 0 a1 then(bif c8 176 ((aag ((0:Int)).toNat eF)++(a0.aK.take (a1).toNat)).length then(bif eT a0.aK (WR (a1+1)) a0.aK.length then(bif c8 176 (((aag ((0:Int)).toNat eF)++(a0.aK.take (a1).toNat))++(a0.aK.drop (WR (a1+1)).toNat)).length then(some (x1,{a0 with aK:=(((aag ((0:Int)).toNat eF)++(a0.aK.take (a1).toNat))++(a0.aK.drop (WR (a1+1)).toNat))})) else none) else none) else none) else none) else none
theorem Ih {a0:ab} {r:bF×ab} (H:qg a0 a1=some r):FnV prog 143 (nI a0) [tP 200,tI a1] (nI r.2) (.v (.agg (kM [.t] (jt r.1)))) []:=by
 refine fV func143 ntmps143 ?_
 refine aa H λx1 hx1 H=>nA (xwT hx1) ?_
 refine nA (oea (he:=f7 _ hx1)) ?_
 obtain⟨h,H⟩:=rq H
 refine nA (mkT (enc:=dr) (za:=eF) h (by rfl)) ?_
 obtain⟨hs15,H⟩:=rq H
 refine nA (YJ (enc:=dr) hs15 (by first|rfl|simp) rfl rfl rfl rfl) ?_
 obtain⟨h,H⟩:=rq H
 refine sA (apT (enc:=dr) (ys:=(aag ((0:Int)).toNat eF)) (zs:=a0.aK.take (a1).toNat) h (hs:=VI (enc:=dr) hs15 rfl)) ?_
 obtain⟨hs16,H⟩:=rq H
 refine nA (Tx (enc:=dr) hs16 (by first|rfl|simp) rfl rfl rfl rfl) ?_
 obtain⟨h,H⟩:=rq H
 refine sA (apT (enc:=dr) (ys:=((aag ((0:Int)).toNat eF)++(a0.aK.take (a1).toNat))) (zs:=a0.aK.drop (WR (a1+1)).toNat) h (hs:=QQ (enc:=dr) hs16 (by first|rfl|simp) rfl)) ?_
 cases H
 refine co (NJ 193 212) ?_
 exact cd
def f5 (a0:List aD):Option (List aD):=
 bif qk 88 (a0.length:Int) (a0.length:Int) then(some (cpL (aag ((a0.length:Int)).toNat dQ) a0)) else none
theorem mt {a0:List aD} {r:List aD} (H:f5 a0=some r):Fn prog 303 [aL (a0.map c9)] [.c (.own 43 11 (r.map c9) r.length)]:=by
 refine fI func303 ntmps303 ?_
 obtain⟨h,H⟩:=rq H
 refine nA (mkT (enc:=c9) (za:=dQ) h (by rfl)) ?_
 refine fG rfl (cpT (enc:=c9) (ys:=(aag ((a0.length:Int)).toNat dQ)) (zs:=a0) rfl (λ_=>rfl) (by first|rfl|simp) .d rfl rfl rfl rfl rfl) ?_
 refine aW (iR (enc:=c9) (o:=0)) ?_
 exact ao H
def pj (a0:cA) (a1:Int):Option Bool:=
 some (eqB a1 a0.vT)
theorem A4 {a0:cA} (H:pj a0 a1=some r):Fn prog 299 [.agg (lK a0),aI a1] [.c (.d (.b r))]:=by
 refine fI func299 ntmps299 ?_
 exact ao H
def oo:Option fF:=
 some (⟨[1,2]⟩:fF)
theorem Aj {r:fF} (H:oo=some r):Fn prog 276 [] [.agg [.own 3 1 (r.Steps.map eI) r.Steps.length]]:=by
 refine fI func276 ntmps276 ?_
 cases H
 refine du (wB 1 ([1,2].length)) ?_
 exact dW
def uL (a0:Int):Option fF:=
 some (⟨[1,3,a0]⟩:fF)
theorem EN {a0:Int} {r:fF} (H:uL a0=some r):Fn prog 134 [aI a0] [.agg [.own 3 1 (r.Steps.map eI) r.Steps.length]]:=by
 refine fI func134 ntmps134 ?_
 cases H
 refine du (wB 1 ([1,3,a0].length)) ?_
 exact dW
def jZ (a0:List Int):(Int×List Int)->Option (cq (Int×List Int) (List Int))
 |(v1,v2)=>bif ltB v1 (a0.length:Int) then(abU (ix a0 v1) λx5=>bif c8 8 (v2++[WR (x5)]).length then(some (.next (WR (v1+1),(v2++[WR (x5)])))) else none) else(some (.done v2))
def rh (a0:List Int):Option (List Int):=
 bif qk 8 0 (WR ((a0.length:Int)+1)) then(bif c8 8 ((aag ((0:Int)).toNat (0:Int))++[(a0.length:Int)]).length then(abU (iter (jZ a0) FU (0,((aag ((0:Int)).toNat (0:Int))++[(a0.length:Int)]))) λ(v4:List Int)=>some v4) else none) else none
theorem Gr {a0:List Int} {r:List Int} (H:rh a0=some r):Fn prog 331 [aL (a0.map eU8)] [.c (.own 3 1 (r.map eI) r.length)]:=by
 refine fI func331 ntmps331 ?_
 obtain⟨h,H⟩:=rq H
 refine nA (mkT (enc:=eI) (za:=0) h (by rfl)) ?_
 obtain⟨h,H⟩:=rq H
 refine sA (apT (enc:=eI) (ys:=(aag ((0:Int)).toNat (0:Int))) (zs:=[(a0.length:Int)]) h) ?_
 refine aa H λv4 Hj H=>jB ⟨[(3,.v (.c (.w 0 v4.length)))],[(0,w3 v4)],1⟩ ?_ ?_
 .refine iT Hj (λq=>⟨[(3,.v (.c (.w 0 q.2.length))),(15,.v (.c (.d false (.l (a0.map eU8))))),(16,tI (a0.length:Int)),(17,tI q.1)],[(0,w3 q.2)],1⟩) ?_
  rintro⟨v1,v2⟩ o H
  refine ad ?_
  refine cC H ?_ ?_<;>intro H
  .refine aa H λx5 hx5 H=>nA (xdT (enc:=eU8) hx5) ?_
   obtain⟨h,H⟩:=rq H
   refine sA (apT (enc:=eI) (ys:=v2) (zs:=[WR (x5)]) h) ?_
   exact aN H
  exact aE H
 exact ao H
def pS (a0:aO) (a1:Int):Int->Option (cq (Int) (Bool))
 |v1=>bif ltB v1 (a0.aC.length:Int) then(abU (ix a0.aC v1) λx2=>bif eqB x2.cV a1 then(dn (some true)) else(some (.next (WR (v1+1))))) else(dn (some false))
def A6 (a0:aO) (a1:Int):Option Bool:=
 iter (pS a0 a1) FU 0
theorem Kn {a0:aO} (H:A6 a0 a1=some r):Fn prog 304 [.agg (fK a0),aI a1] [.c (.d (.b r))]:=by
 refine fI func304 ntmps304 ?_
 refine iT H (λq=>⟨[(1,tI a1),(8,.v (.c (.d false (.l (a0.aC.map an))))),(9,tI (a0.aC.length:Int)),(10,tI q)],[],0⟩) ?_
 rintro v1 o H
 refine ad ?_
 refine cC H ?_ ?_<;>intro H
 .refine aa H λx2 hx2 H=>nA (xdT (enc:=an) hx2) ?_
  refine cC H ?_ ?_<;>intro H
  .exact aQ H
  exact aN H
 exact aQ H
def wk (a0:ab):Option Bool:=
 some (eqB (a0.aK.length:Int) 0)
theorem Gt {a0:ab} (H:wk a0=some r):Fn prog 14 [.agg (iy a0)] [.c (.d (.b r))]:=by
 refine fI func14 ntmps14 ?_
 exact ao H
end Go.AM
