/- A part. -/
import Derived.Test.YtmginjngmidkbaaGreatI0
set_option linter.unusedVariables false
open Option renaming bind->abU
namespace Go.AM
open Go.Proofs
open Tryz
attribute [local irreducible] AWN NS AWO AWR AWC DR ea gL
set_option maxRecDepth 100000
set_option maxHeartbeats 40000000
variable {r:Bool}
def om (a0:am) (a1:Int):Option Int:=
 abU (f6 a0 a1) λr1=>bif ltB r1 0 then(some 0) else(abU (ix a0.aj r1) λx2=>some x2.d8)
theorem Gx {a0:am} {a1:Int} {r:Int} (H:om a0 a1=some r):Fn prog 20 [.agg (cN a0),aI a1] [.c (.d (.i .i64 r))]:=by
 refine fI func20 ntmps20 ?_
 refine aa H λr1 q1 H=>nA (ca (hF:=Al q1)) ?_
 refine cC H ?_ ?_<;>intro H
 .exact ao H
 refine aa H λx2 hx2 H=>nA (xdT (enc:=bv) hx2) ?_
 exact ao H
def gJ (a0:Int):Option Bool:=
 abU (b9 a0 1 2147483646) λr1=>some r1
theorem ij {a0:Int} (H:gJ a0=some r):Fn prog 165 [aI a0] [.c (.d (.b r))]:=by
 refine fI func165 ntmps165 ?_
 refine aa H λr1 q1 H=>nA (ca (hF:=bX q1)) ?_
 exact ao H
def gK (a0:dD):Option Bool:=
 abU (b9 a0.dN 0 3) λr1=>abU (bif r1 then(abU (b9 a0.bL 0 99) λr3=>some r3) else(some false)) λ(v2:Bool)=>some v2
theorem n8 {a0:dD} (H:gK a0=some r):Fn prog 241 [.agg (nT a0)] [.c (.d (.b r))]:=by
 refine fI func241 ntmps241 ?_
 refine aa H λr1 q1 H=>nA (ca (hF:=bX q1)) ?_
 refine aa H λv2 Hj H=>jR ⟨[(2,tB v2)],[],0⟩ ?_ ?_
 .refine gC Hj ?_ ?_<;>intro H
  .refine aa H λr3 q3 H=>nG (ca (hF:=bX q3)) ?_
   exact ai H
  exact ai H
 exact ao H
def jl (a0:aO):Int->Option (cq (Int) (Bool))
 |v3=>bif ltB v3 (a0.aC.length:Int) then(abU (ix a0.aC v3) λx4=>abU (bif ltB 60 (x4.bg.length:Int) then(some true) else(abU (b9 x4.cV (WR (a0.bB+1)) (WR ((WR (a0.bB+8))-1))) λr6=>some (!r6))) λ(v5:Bool)=>bif v5 then(dn (some false)) else(abU (bif ltB 0 v3 then(abU (ix a0.aC (WR (v3-1))) λx8=>some (leB x4.cV x8.cV)) else(some false)) λ(v7:Bool)=>bif v7 then(dn (some false)) else(some (.next (WR (v3+1)))))) else(dn (some true))
def ju (a0:aO):Option Bool:=
 abU (bif !eqB a0.bB (WR ((a0.bi.length:Int)+1)) then(some true) else(bif ltB 24 (a0.bi.length:Int) then(some true) else(abU (tH a0.bi) λr2=>bif !r2 then(some true) else(some (ltB 8 (a0.aC.length:Int)))))) λ(v1:Bool)=>bif v1 then(some false) else(iter (jl a0) FU 0)
theorem sF {a0:aO} (H:ju a0=some r):Fn prog 166 [.agg (fK a0)] [.c (.d (.b r))]:=by
 refine fI func166 ntmps166 ?_
 refine aa H λv1 Hj H=>jR ⟨[(1,tP 0),(29,tB v1)],[(0,.var 91 (kM [.f,.f] (bH a0)))],1⟩ ?_ ?_
 .refine gC Hj ?_ ?_<;>intro H
  .exact ai H
  refine gC H ?_ ?_<;>intro H
  .exact ai H
  refine aa H λr2 q2 H=>nG (ca (hF:=Ay q2)) ?_
  exact az H
 refine cC H ?_ ?_<;>intro H
 .exact ao H
 refine iT H (λq=>⟨[(1,tP 0),(31,.v (.c (.d false (.l (a0.aC.map an))))),(32,tI (a0.aC.length:Int)),(33,tI q)],[(0,.var 91 (kM [.f,.f] (bH a0)))],1⟩) ?_
 rintro v3 o H
 refine ad ?_
 refine cC H ?_ ?_<;>intro H
 .refine aa H λx4 hx4 H=>nA (xdT (enc:=an) hx4) ?_
  refine aa H λv5 Hj H=>jR ⟨[(1,tP 0),(3,tI v3),(4,tP 1),(31,.v (.c (.d false (.l (a0.aC.map an))))),(32,tI (a0.aC.length:Int)),(33,tI v3),(54,tB v5)],[(0,.var 91 (kM [.f,.f] (bH a0))),(1,.var 131 (kM [.f] (di x4)))],2⟩ ?_ ?_
  .refine gC Hj ?_ ?_<;>intro H
   .exact ai H
   refine aa H λr6 q6 H=>nG (ca (hF:=bX q6)) ?_
   exact ai H
  refine cC H ?_ ?_<;>intro H
  .exact aQ H
  refine dI ?_
  refine aa H λv7 Hj H=>fA ⟨[(1,tP 0),(31,.v (.c (.d false (.l (a0.aC.map an))))),(32,tI (a0.aC.length:Int)),(33,tI v3),(68,tB v7)],[(0,.var 91 (kM [.f,.f] (bH a0)))],1⟩ ?_ ?_
  .have H:=Hj
   refine wI ?_
   refine dC H ?_ ?_<;>intro H
   .refine aa H λx8 hx8 H=>dG (xdT (enc:=an) hx8) ?_
    refine wI ?_
    exact ai H
   refine wI ?_
   exact ai H
  refine wI ?_
  refine cC H ?_ ?_<;>intro H
  .refine wI ?_
   exact aQ H
  refine wI ?_
  exact aN H
 exact aQ H
def ka (a0:cX):Option Int:=
 abU (je a0) λr1=>bif !r1 then(some 0) else(some (WR (a0.cG-a0.ev)))
theorem B3 {a0:cX} {r:Int} (H:ka a0=some r):Fn prog 76 [.agg (pK a0)] [.c (.d (.i .i64 r))]:=by
 refine fI func76 ntmps76 ?_
 refine aa H λr1 q1 H=>nA (ca (hF:=mN q1)) ?_
 exact ay H
def gS (a0:bD):Int->Option (cq (Int) (Bool))
 |v5=>bif ltB v5 (a0.bC.length:Int) then(abU (ix a0.bC v5) λx6=>abU (b9 x6 0 3) λr7=>bif !r7 then(dn (some false)) else(some (.next (WR (v5+1))))) else(dn (abU (ox a0.bC) λr8=>some r8))
def iV (a0:bD):Option Bool:=
 abU (b9 a0.iv 1 1000) λr1=>abU (bif !r1 then(some true) else(abU (b9 a0.iu 1 4) λr3=>bif !r3 then(some true) else(abU (b9 a0.eg 1 100000) λr4=>some (!r4)))) λ(v2:Bool)=>bif v2 then(some false) else(iter (gS a0) FU 0)
theorem wl {a0:bD} (H:iV a0=some r):Fn prog 168 [.agg (iA a0)] [.c (.d (.b r))]:=by
 refine fI func168 ntmps168 ?_
 refine aa H λr1 q1 H=>nA (ca (hF:=bX q1)) ?_
 refine aa H λv2 Hj H=>jR ⟨[(1,tP 0),(20,tB v2)],[(0,.var 65 (kM [.f] (dX a0)))],1⟩ ?_ ?_
 .refine gC Hj ?_ ?_<;>intro H
  .exact ai H
  refine aa H λr3 q3 H=>nG (ca (hF:=bX q3)) ?_
  refine gC H ?_ ?_<;>intro H
  .exact ai H
  refine aa H λr4 q4 H=>nG (ca (hF:=bX q4)) ?_
  exact ai H
 refine cC H ?_ ?_<;>intro H
 .exact ao H
 refine iT H (λq=>⟨[(1,tP 0),(22,.v (.c (.d false (.l (a0.bC.map eI))))),(23,tI (a0.bC.length:Int)),(24,tI q)],[(0,.var 65 (kM [.f] (dX a0)))],1⟩) ?_
 rintro v5 o H
 refine ad ?_
 refine cC H ?_ ?_<;>intro H
 .refine aa H λx6 hx6 H=>nA (xdT (enc:=eI) hx6) ?_
  refine aa H λr7 q7 H=>nA (ca (hF:=bX q7)) ?_
  refine cC H ?_ ?_<;>intro H
  .exact aQ H
  exact aN H
 refine aR H λH=>?_
 refine aa H λr8 q8 H=>nA (ca (hF:=yz q8)) ?_
 exact ao H
def n0 (a0:cR):Option Bool:=
 abU (b9 a0.fJ 0 2) λr1=>abU (bif r1 then(abU (b9 a0.eQ 0 4) λr3=>bif r3 then(abU (b9 a0.eU 0 3) λr4=>some r4) else(some false)) else(some false)) λ(v2:Bool)=>some v2
theorem Dm {a0:cR} (H:n0 a0=some r):Fn prog 169 [.agg (uG a0)] [.c (.d (.b r))]:=by
 refine fI func169 ntmps169 ?_
 refine aa H λr1 q1 H=>nA (ca (hF:=bX q1)) ?_
 refine aa H λv2 Hj H=>jR ⟨[(2,tB v2)],[],0⟩ ?_ ?_
 .refine gC Hj ?_ ?_<;>intro H
  .refine aa H λr3 q3 H=>nG (ca (hF:=bX q3)) ?_
   refine gC H ?_ ?_<;>intro H
   .refine aa H λr4 q4 H=>nG (ca (hF:=bX q4)) ?_
    exact ai H
   exact ai H
  exact ai H
 exact ao H
def kJ (a0:aY):Int->Option (cq (Int) (Bool))
 |v3=>bif ltB v3 (a0.aw.length:Int) then(abU (ix a0.aw v3) λx4=>abU (bif !eqB x4.cV (WR ((WR (a0.bB-(a0.aw.length:Int)))+v3)) then(some true) else(some (ltB 60 (x4.bg.length:Int)))) λ(v5:Bool)=>bif v5 then(dn (some false)) else(some (.next (WR (v3+1))))) else(dn (some true))
def lf (a0:aY):Option Bool:=
 abU (b9 a0.bB 1 100000) λr1=>abU (bif !r1 then(some true) else(some (ltB 8 (a0.aw.length:Int)))) λ(v2:Bool)=>bif v2 then(some false) else(bif ltB (WR (a0.bB-(a0.aw.length:Int))) 1 then(some false) else(iter (kJ a0) FU 0))
theorem Dn {a0:aY} (H:lf a0=some r):Fn prog 170 [.agg (gz a0)] [.c (.d (.b r))]:=by
 refine fI func170 ntmps170 ?_
 refine aa H λr1 q1 H=>nA (ca (hF:=bX q1)) ?_
 refine aa H λv2 Hj H=>jR ⟨[(1,tP 0),(15,tB v2)],[(0,.var 71 (kM [.f] (dE a0)))],1⟩ ?_ ?_
 .exact az Hj
 refine cC H ?_ ?_<;>intro H
 .exact ao H
 refine cC H ?_ ?_<;>intro H
 .exact ao H
 refine iT H (λq=>⟨[(3,tI (WR (a0.bB-(a0.aw.length:Int)))),(25,.v (.c (.d false (.l (a0.aw.map an))))),(26,tI (a0.aw.length:Int)),(27,tI q)],[],0⟩) ?_
 rintro v3 o H
 refine ad ?_
 refine cC H ?_ ?_<;>intro H
 .refine aa H λx4 hx4 H=>nA (xdT (enc:=an) hx4) ?_
  refine aa H λv5 Hj H=>jR ⟨[(3,tI (WR (a0.bB-(a0.aw.length:Int)))),(25,.v (.c (.d false (.l (a0.aw.map an))))),(26,tI (a0.aw.length:Int)),(27,tI v3),(43,tB v5)],[],0⟩ ?_ ?_
  .exact az Hj
  refine cC H ?_ ?_<;>intro H
  .exact aQ H
  exact aN H
 exact aQ H
def iW (a0:ah):Option Int:=
 abU (oA a0.ax.aw) λr1=>some r1
theorem Ai {a0:ah} {r:Int} (H:iW a0=some r):Fn prog 173 [.agg (bU a0)] [.c (.d (.i .i64 r))]:=by
 refine fI func173 ntmps173 ?_
 refine aa H λr1 q1 H=>nA (ca (hF:=Dv q1)) ?_
 exact ao H
def fk (a0:am):Option am:=
 abU (fX a0.aj) λr1=>some {a0 with aj:=r1}
theorem GA {a0:am} {r:am} (H:fk a0=some r):Fn prog 50 [.agg (cN a0)] [.agg (qM [.o] (cZ r))]:=by
 refine fI func50 ntmps50 ?_
 refine aa H λr1 q1 H=>nA (ca (hF:=qa q1)) ?_
 exact ao H
def yw (a0:aS):(Int×List fr)->Option (cq (Int×List fr) (List fr))
 |(v1,v2)=>bif ltB v1 (a0.aX.length:Int) then(abU (ix a0.aX v1) λx7=>abU (rS x7.cr) λr8=>abU (ix v2 v1) λx9=>some (.next (WR (v1+1),(v2.set (v1).toNat (⟨x7.fJ,r8⟩:fr))))) else(some (.done v2))
def B6 (a0:aS):Option aS:=
 bif qk 32 (a0.aX.length:Int) (a0.aX.length:Int) then(abU (iter (yw a0) FU (0,(List.replicate ((a0.aX.length:Int)).toNat Pn))) λ(v6:List fr)=>some (⟨v6⟩:aS)) else none
theorem Ok {a0:aS} {r:aS} (H:B6 a0=some r):Fn prog 82 [.agg (iw a0)] [.agg [.own 147 2 (r.aX.map dy) r.aX.length]]:=by
 refine fI func82 ntmps82 ?_
 obtain⟨h,H⟩:=rq H
 refine nA (mkT (enc:=dy) (za:=Pn) h (by rfl)) ?_
 refine aa H λv6 Hj H=>jB ⟨[(2,tP 1),(3,.v (.c (.w 2 v6.length)))],[(1,.var 26 [.nil]),(2,w147 v6)],3⟩ ?_ ?_
 .refine iT Hj (λq=>⟨[(2,tP 1),(3,.v (.c (.w 2 q.2.length))),(11,.v (.c (.d false (.l (a0.aX.map dy))))),(12,tI (a0.aX.length:Int)),(13,tI q.1)],[(1,.var 26 [.nil]),(2,w147 q.2)],3⟩) ?_
  rintro⟨v1,v2⟩ o H
  refine ad ?_
  refine cC H ?_ ?_<;>intro H
  .refine aa H λx7 hx7 H=>nA (xdT (enc:=dy) hx7) ?_
   refine zI (List.range 10) ?_
   refine aa H λr8 q8 H=>zA (ca (hF:=Ei q8)) ?_
   refine aa H λx9 hx9 H=>zA (xwT hx9) ?_
   refine zB (aq (bb (o:=4)) (b7 (k:=25))) (gG rfl (soT (enc:=dy) (a':=(⟨x7.fJ,r8⟩:fr)) hx9)) b8 ?_
   exact aN H
  exact aE H
 exact ao H
def pm (a0:List bM):(Int×List bM)->Option (cq (Int×List bM) (List bM))
 |(v1,v2)=>bif ltB v1 (a0.length:Int) then(abU (ix a0 v1) λx7=>abU (eZ x7.bg) λr8=>abU (ix v2 v1) λx9=>some (.next (WR (v1+1),(v2.set (v1).toNat (⟨r8⟩:bM))))) else(some (.done v2))
def mu (a0:List bM):Option (List bM):=
 bif qk 24 (a0.length:Int) (a0.length:Int) then(abU (iter (pm a0) FU (0,(List.replicate ((a0.length:Int)).toNat (⟨[]⟩:bM)))) λ(v6:List bM)=>some v6) else none
theorem xz {a0:List bM} {r:List bM} (H:mu a0=some r):Fn prog 140 [aL (a0.map da)] [.c (.own 119 1 (r.map da) r.length)]:=by
 refine fI func140 ntmps140 ?_
 obtain⟨h,H⟩:=rq H
 refine nA (mkT (enc:=da) (za:=(⟨[]⟩:bM)) h (by rfl)) ?_
 refine aa H λv6 Hj H=>jB ⟨[(3,.v (.c (.w 0 v6.length)))],[(0,V9 v6)],1⟩ ?_ ?_
 .refine iT Hj (λq=>⟨[(3,.v (.c (.w 0 q.2.length))),(9,.v (.c (.d false (.l (a0.map da))))),(10,tI (a0.length:Int)),(11,tI q.1)],[(0,V9 q.2)],1⟩) ?_
  rintro⟨v1,v2⟩ o H
  refine ad ?_
  refine cC H ?_ ?_<;>intro H
  .refine aa H λx7 hx7 H=>nA (xdT (enc:=da) hx7) ?_
   refine aa H λr8 q8 H=>nA (ca (hF:=ow q8)) ?_
   refine aa H λx9 hx9 H=>nA (xwT hx9) ?_
   refine bQ (bb (o:=2)) ?_
   refine bQ (b7 (k:=21)) ?_
   refine sA (soT (enc:=da) (a':=(⟨r8⟩:bM)) hx9) ?_
   exact aN H
  exact aE H
 exact ao H
def pk (a0:List ae):(Int×List ae)->Option (cq (Int×List ae) (List ae))
 |(v1,v2)=>bif ltB v1 (a0.length:Int) then(abU (ix a0 v1) λx7=>abU (eZ x7.bg) λr8=>abU (ix v2 v1) λx9=>some (.next (WR (v1+1),(v2.set (v1).toNat (⟨x7.cV,r8⟩:ae))))) else(some (.done v2))
def kx (a0:List ae):Option (List ae):=
 bif qk 32 (a0.length:Int) (a0.length:Int) then(abU (iter (pk a0) FU (0,(List.replicate ((a0.length:Int)).toNat bP))) λ(v6:List ae)=>some v6) else none
theorem qH {a0:List ae} {r:List ae} (H:kx a0=some r):Fn prog 220 [aL (a0.map an)] [.c (.own 131 2 (r.map an) r.length)]:=by
 refine fI func220 ntmps220 ?_
 obtain⟨h,H⟩:=rq H
 refine nA (mkT (enc:=an) (za:=bP) h (by rfl)) ?_
 refine aa H λv6 Hj H=>jB ⟨[(3,.v (.c (.w 0 v6.length)))],[(0,NH v6)],1⟩ ?_ ?_
 .refine iT Hj (λq=>⟨[(3,.v (.c (.w 0 q.2.length))),(9,.v (.c (.d false (.l (a0.map an))))),(10,tI (a0.length:Int)),(11,tI q.1)],[(0,NH q.2)],1⟩) ?_
  rintro⟨v1,v2⟩ o H
  refine ad ?_
  refine cC H ?_ ?_<;>intro H
  .refine aa H λx7 hx7 H=>nA (xdT (enc:=an) hx7) ?_
   refine zI (List.range 10) ?_
   refine aa H λr8 q8 H=>zA (ca (hF:=ow q8)) ?_
   refine aa H λx9 hx9 H=>zA (xwT hx9) ?_
   refine zB (aq (bb (o:=2)) (b7 (k:=23))) (gG rfl (soT (enc:=an) (a':=(⟨x7.cV,r8⟩:ae)) hx9)) b8 ?_
   exact aN H
  exact aE H
 exact ao H
def kO (a0:bD):Option bD:=
 abU (rS a0.bC) λr1=>some {a0 with bC:=r1}
theorem Ak {a0:bD} {r:bD} (H:kO a0=some r):Fn prog 139 [.agg (iA a0)] [.agg (qM [.o] (dX r))]:=by
 refine fI func139 ntmps139 ?_
 refine aa H λr1 q1 H=>nA (ca (hF:=Ei q1)) ?_
 exact ao H
def rr (a0:bp):Option bp:=
 abU (eZ a0.bg) λr1=>some {a0 with bg:=r1}
theorem GB {a0:bp} {r:bp} (H:rr a0=some r):Fn prog 222 [.agg (eh a0)] [.agg (qM [.o] (pf r))]:=by
 refine fI func222 ntmps222 ?_
 refine aa H λr1 q1 H=>nA (ca (hF:=ow q1)) ?_
 exact ao H
def lg (a0:aD):Option Bool:=
 abU (b9 a0.a8 1 8) λr1=>abU (bif r1 then(abU (b9 a0.be 0 5) λr3=>bif r3 then(abU (b9 a0.ag 0 999999) λr4=>bif r4 then(abU (b9 a0.aT 0 999999) λr5=>bif r5 then(abU (b9 a0.bL 0 1000000000000) λr6=>some r6) else(some false)) else(some false)) else(some false)) else(some false)) λ(v2:Bool)=>some v2
theorem vk {a0:aD} (H:lg a0=some r):Fn prog 223 [.agg (c9 a0)] [.c (.d (.b r))]:=by
 refine fI func223 ntmps223 ?_
 refine aa H λr1 q1 H=>nA (ca (hF:=bX q1)) ?_
 refine aa H λv2 Hj H=>jR ⟨[(2,tB v2)],[],0⟩ ?_ ?_
 .refine gC Hj ?_ ?_<;>intro H
  .refine aa H λr3 q3 H=>nG (ca (hF:=bX q3)) ?_
   refine gC H ?_ ?_<;>intro H
   .refine aa H λr4 q4 H=>nG (ca (hF:=bX q4)) ?_
    refine gC H ?_ ?_<;>intro H
    .refine aa H λr5 q5 H=>nG (ca (hF:=bX q5)) ?_
     refine gC H ?_ ?_<;>intro H
     .refine aa H λr6 q6 H=>nG (ca (hF:=bX q6)) ?_
      exact ai H
     exact ai H
    exact ai H
   exact ai H
  exact ai H
 exact ao H
def Rs (a0:Int) (a1:Int):Option Int:=
 abU (b9 a1 1 1000000000000) λr1=>bif !r1 then(some 0) else(bif !eqB a1 0 then(abU (bif ltB (Int.tmod a0 a1) 0 then(some (WR ((Int.tmod a0 a1)+a1))) else(some (Int.tmod a0 a1))) λ(v2:Int)=>some v2) else none)
theorem Oj {a0:Int} {a1:Int} {r:Int} (H:Rs a0 a1=some r):Fn prog 277 [aI a0,aI a1] [.c (.d (.i .i64 r))]:=by
 refine fI func277 ntmps277 ?_
 refine aa H λr1 q1 H=>nA (ca (hF:=bX q1)) ?_
 refine cC H ?_ ?_<;>intro H
 .exact ao H
 obtain⟨h,H⟩:=rq H
 refine nA (ir rfl rfl rfl (ne0 h)) ?_
 refine aa H λv2 Hj H=>jA ⟨[(5,tI v2)],[],0⟩ ?_ ?_
 .exact az Hj
 exact ao H
def pN (a0:cX) (a1:Int):Option (cX×Bool):=
 abU (je a0) λr1=>abU (bif !r1 then(some true) else(abU (b9 a1 0 (WR (a0.cG-a0.ev))) λr3=>some (!r3))) λ(v2:Bool)=>bif v2 then(some (a0,false)) else(some ({a0 with ev:=WR (a0.ev+a1)},true))
theorem EM {a0:cX} {a1:Int} {r:cX×Bool} (H:pN a0 a1=some r):Fn prog 301 [.agg (pK a0),aI a1] [.agg (qM [] (nU r.1)),.c (.d (.b r.2))]:=by
 refine fI func301 ntmps301 ?_
 refine aa H λr1 q1 H=>nA (ca (hF:=mN q1)) ?_
 refine aa H λv2 Hj H=>jR ⟨[(1,tI a1),(2,tP 0),(4,tP 1),(18,tB v2)],[(0,.var 73 (kM [] (nU a0))),(1,.var 73 (kM [] (nU C0)))],2⟩ ?_ ?_
 .refine gC Hj ?_ ?_<;>intro H
  .exact ai H
  refine aa H λr3 q3 H=>nG (ca (hF:=bX q3)) ?_
  exact ai H
 exact ay H
def mO (a0:bp):Option Bool:=
 abU (bif eqB a0.cM 0 then(abU (b9 a0.fE 1 100000) λr2=>bif r2 then(bif leB (a0.bg.length:Int) 60 then(abU (b9 a0.iM 0 2147483646) λr3=>some r3) else(some false)) else(some false)) else(bif eqB a0.cM 1 then(abU (b9 a0.fE 1 100000) λr4=>bif r4 then(bif leB (a0.bg.length:Int) 60 then(abU (b9 a0.iM 0 2147483646) λr5=>some r5) else(some false)) else(some false)) else(some false))) λ(v1:Bool)=>some v1
theorem BZ {a0:bp} (H:mO a0=some r):Fn prog 197 [.agg (eh a0)] [.c (.d (.b r))]:=by
 refine fI func197 ntmps197 ?_
 refine aa H λv1 Hj H=>jR ⟨[(2,tB v1)],[],0⟩ ?_ ?_
 .refine gC Hj ?_ ?_<;>intro H
  .refine aa H λr2 q2 H=>nG (ca (hF:=bX q2)) ?_
   refine gC H ?_ ?_<;>intro H
   .refine gC H ?_ ?_<;>intro H
    .refine aa H λr3 q3 H=>nG (ca (hF:=bX q3)) ?_
     exact ai H
    exact ai H
   exact ai H
  refine gC H ?_ ?_<;>intro H
  .refine aa H λr4 q4 H=>nG (ca (hF:=bX q4)) ?_
   refine gC H ?_ ?_<;>intro H
   .refine gC H ?_ ?_<;>intro H
    .refine aa H λr5 q5 H=>nG (ca (hF:=bX q5)) ?_
     exact ai H
    exact ai H
   exact ai H
  exact ai H
 exact ao H
end Go.AM
