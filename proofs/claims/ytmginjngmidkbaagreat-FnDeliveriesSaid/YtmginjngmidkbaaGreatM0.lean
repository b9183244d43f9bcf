/- A part. -/
import Derived.Test.YtmginjngmidkbaaGreatG
set_option linter.unusedVariables false
open Option renaming bind->abU
namespace Go.AM
open Go.Proofs
open Tryz
attribute [local irreducible] AWN NS AWO AWR AWC DR ea gL
set_option maxRecDepth 100000
set_option maxHeartbeats 40000000
variable {r:Bool}
def Y7 (a0:List Int):Option Bool:=
 some (ltB 1048576 (a0.length:Int))
theorem Y8 {a0:List Int} (H:Y7 a0=some r):Fn prog 8 [aL (a0.map eU8)] [.c (.d (.b r))]:=by
 refine fI func8 ntmps8 ?_
 exact ao H
def lat (a0:List Int) (a1:Int):Option Int:=
 bif ltB a1 (a0.length:Int) then(abU (ix a0 a1) λx1=>some (WR (x1))) else(some (Int.tmod (WR ((WR (a1*31))+(WR ((a0.length:Int)*7)))) 256))
theorem lat_c {a0:List Int} {a1:Int} {r:Int} (H:lat a0 a1=some r):Fn prog 10 [aL (a0.map eU8),aI a1] [.c (.d (.i .i64 r))]:=by
 refine fI func10 ntmps10 ?_
 refine cC H ?_ ?_<;>intro H
 .refine aa H λx1 hx1 H=>nA (xdT (enc:=eU8) hx1) ?_
  exact ao H
 refine nA (ir rfl rfl rfl (by decide)) ?_
 exact ao H
def wH (a0:List Int) (a1:List Int):Int->Option (cq (Int) (Bool))
 |v1=>bif ltB v1 (a0.length:Int) then(abU (ix a0 v1) λx2=>abU (ix a1 v1) λx3=>bif !eqB x2 x3 then(dn (some false)) else(some (.next (WR (v1+1))))) else(dn (some true))
def vr (a0:List Int) (a1:List Int):Option Bool:=
 bif !eqB (a0.length:Int) (a1.length:Int) then(some false) else(iter (wH a0 a1) FU 0)
theorem El {a0:List Int} {a1:List Int} (H:vr a0 a1=some r):Fn prog 97 [aL (a0.map eI),aL (a1.map eI)] [.c (.d (.b r))]:=by
 refine fI func97 ntmps97 ?_
 refine cC H ?_ ?_<;>intro H
 .exact ao H
 refine iT H (λq=>⟨[(0,.v (.c (.d false (.l (a0.map eI))))),(1,.v (.c (.d false (.l (a1.map eI))))),(5,tI q)],[],0⟩) ?_
 rintro v1 o H
 refine ad ?_
 refine cC H ?_ ?_<;>intro H
 .refine dI ?_
  refine aa H λx2 hx2 H=>dA (xdT (enc:=eI) hx2) ?_
  refine aa H λx3 hx3 H=>dA (xdT (enc:=eI) hx3) ?_
  refine wI ?_
  refine cC H ?_ ?_<;>intro H
  .exact aQ H
  exact aN H
 exact aQ H
def yL (a0:aS) (a1:aS):Int->Option (cq (Int) (Bool))
 |v1=>bif ltB v1 (a0.aX.length:Int) then(abU (ix a0.aX v1) λx2=>abU (ix a1.aX v1) λx3=>abU (bif !eqB x2.fJ x3.fJ then(some true) else(abU (ix a0.aX v1) λx5=>abU (ix a1.aX v1) λx6=>abU (vr x5.cr x6.cr) λr7=>some (!r7))) λ(v4:Bool)=>bif v4 then(dn (some false)) else(some (.next (WR (v1+1))))) else(dn (some true))
def Cb (a0:aS) (a1:aS):Option Bool:=
 bif !eqB (a0.aX.length:Int) (a1.aX.length:Int) then(some false) else(iter (yL a0 a1) FU 0)
theorem On {a0:aS} {a1:aS} (H:Cb a0 a1=some r):Fn prog 39 [.agg (iw a0),.agg (iw a1)] [.c (.d (.b r))]:=by
 refine fI func39 ntmps39 ?_
 refine cC H ?_ ?_<;>intro H
 .exact ao H
 refine iT H (λq=>⟨[(2,tP 0),(3,tP 1),(5,tI q)],[(0,.var 26 [.d false (.l (a0.aX.map dy))]),(1,.var 26 [.d false (.l (a1.aX.map dy))])],2⟩) ?_
 rintro v1 o H
 refine ad ?_
 refine cC H ?_ ?_<;>intro H
 .refine dI ?_
  refine aa H λx2 hx2 H=>dA (xdT (enc:=dy) hx2) ?_
  refine aa H λx3 hx3 H=>dA (xdT (enc:=dy) hx3) ?_
  refine aa H λv4 Hj H=>fA ⟨[(2,tP 0),(3,tP 1),(5,tI v1),(48,tB v4)],[(0,.var 26 [.d false (.l (a0.aX.map dy))]),(1,.var 26 [.d false (.l (a1.aX.map dy))])],2⟩ ?_ ?_
  .have H:=Hj
   refine wI ?_
   refine dC H ?_ ?_<;>intro H
   .refine wI ?_
    exact ai H
   refine aa H λx5 hx5 H=>dG (xdT (enc:=dy) hx5) ?_
   refine aa H λx6 hx6 H=>dG (xdT (enc:=dy) hx6) ?_
   refine aa H λr7 q7 H=>dG (ca (hF:=El q7)) ?_
   refine wI ?_
   exact ai H
  refine wI ?_
  refine cC H ?_ ?_<;>intro H
  .refine wI ?_
   exact aQ H
  refine wI ?_
  exact aN H
 exact aQ H
def uT (a0:List Int) (a1:List Int):Int->Option (cq (Int) (Bool))
 |v1=>bif ltB v1 (a0.length:Int) then(abU (ix a0 v1) λx2=>abU (ix a1 v1) λx3=>bif !eqB x2 x3 then(dn (some false)) else(some (.next (WR (v1+1))))) else(dn (some true))
def nf (a0:List Int) (a1:List Int):Option Bool:=
 bif !eqB (a0.length:Int) (a1.length:Int) then(some false) else(iter (uT a0 a1) FU 0)
theorem wG {a0:List Int} {a1:List Int} (H:nf a0 a1=some r):Fn prog 161 [aL (a0.map eU8),aL (a1.map eU8)] [.c (.d (.b r))]:=by
 refine fI func161 ntmps161 ?_
 refine cC H ?_ ?_<;>intro H
 .exact ao H
 refine iT H (λq=>⟨[(0,.v (.c (.d false (.l (a0.map eU8))))),(1,.v (.c (.d false (.l (a1.map eU8))))),(5,tI q)],[],0⟩) ?_
 rintro v1 o H
 refine ad ?_
 refine cC H ?_ ?_<;>intro H
 .refine dI ?_
  refine aa H λx2 hx2 H=>dA (xdT (enc:=eU8) hx2) ?_
  refine aa H λx3 hx3 H=>dA (xdT (enc:=eU8) hx3) ?_
  refine wI ?_
  refine cC H ?_ ?_<;>intro H
  .exact aQ H
  exact aN H
 exact aQ H
def pw (a0:List bM) (a1:List bM):Int->Option (cq (Int) (Bool))
 |v1=>bif ltB v1 (a0.length:Int) then(abU (ix a0 v1) λx2=>abU (ix a1 v1) λx3=>abU (nf x2.bg x3.bg) λr4=>bif !r4 then(dn (some false)) else(some (.next (WR (v1+1))))) else(dn (some true))
def kz (a0:List bM) (a1:List bM):Option Bool:=
 bif !eqB (a0.length:Int) (a1.length:Int) then(some false) else(iter (pw a0 a1) FU 0)
theorem xC {a0:List bM} {a1:List bM} (H:kz a0 a1=some r):Fn prog 100 [aL (a0.map da),aL (a1.map da)] [.c (.d (.b r))]:=by
 refine fI func100 ntmps100 ?_
 refine cC H ?_ ?_<;>intro H
 .exact ao H
 refine iT H (λq=>⟨[(0,.v (.c (.d false (.l (a0.map da))))),(1,.v (.c (.d false (.l (a1.map da))))),(5,tI q)],[],0⟩) ?_
 rintro v1 o H
 refine ad ?_
 refine cC H ?_ ?_<;>intro H
 .refine dI ?_
  refine aa H λx2 hx2 H=>dA (xdT (enc:=da) hx2) ?_
  refine aa H λx3 hx3 H=>dA (xdT (enc:=da) hx3) ?_
  refine aa H λr4 q4 H=>dA (ca (hF:=wG q4)) ?_
  refine wI ?_
  refine cC H ?_ ?_<;>intro H
  .exact aQ H
  exact aN H
 exact aQ H
def qO (a0:List ae) (a1:List ae):Int->Option (cq (Int) (Bool))
 |v1=>bif ltB v1 (a0.length:Int) then(abU (ix a0 v1) λx2=>abU (ix a1 v1) λx3=>abU (bif !eqB x2.cV x3.cV then(some true) else(abU (ix a0 v1) λx5=>abU (ix a1 v1) λx6=>abU (nf x5.bg x6.bg) λr7=>some (!r7))) λ(v4:Bool)=>bif v4 then(dn (some false)) else(some (.next (WR (v1+1))))) else(dn (some true))
def oD (a0:List ae) (a1:List ae):Option Bool:=
 bif !eqB (a0.length:Int) (a1.length:Int) then(some false) else(iter (qO a0 a1) FU 0)
theorem yN {a0:List ae} {a1:List ae} (H:oD a0 a1=some r):Fn prog 160 [aL (a0.map an),aL (a1.map an)] [.c (.d (.b r))]:=by
 refine fI func160 ntmps160 ?_
 refine cC H ?_ ?_<;>intro H
 .exact ao H
 refine iT H (λq=>⟨[(0,.v (.c (.d false (.l (a0.map an))))),(1,.v (.c (.d false (.l (a1.map an))))),(5,tI q)],[],0⟩) ?_
 rintro v1 o H
 refine ad ?_
 refine cC H ?_ ?_<;>intro H
 .refine dI ?_
  refine aa H λx2 hx2 H=>dA (xdT (enc:=an) hx2) ?_
  refine aa H λx3 hx3 H=>dA (xdT (enc:=an) hx3) ?_
  refine aa H λv4 Hj H=>fA ⟨[(0,.v (.c (.d false (.l (a0.map an))))),(1,.v (.c (.d false (.l (a1.map an))))),(5,tI v1),(41,tB v4)],[],0⟩ ?_ ?_
  .have H:=Hj
   refine wI ?_
   refine dC H ?_ ?_<;>intro H
   .refine wI ?_
    exact ai H
   refine aa H λx5 hx5 H=>dG (xdT (enc:=an) hx5) ?_
   refine aa H λx6 hx6 H=>dG (xdT (enc:=an) hx6) ?_
   refine aa H λr7 q7 H=>dG (ca (hF:=wG q7)) ?_
   refine wI ?_
   exact ai H
  refine wI ?_
  refine cC H ?_ ?_<;>intro H
  .refine wI ?_
   exact aQ H
  refine wI ?_
  exact aN H
 exact aQ H
def pT (a0:aO) (a1:aO):Option Bool:=
 abU (bif eqB a0.bB a1.bB then(abU (oD a0.aC a1.aC) λr2=>bif r2 then(abU (kz a0.bi a1.bi) λr3=>some r3) else(some false)) else(some false)) λ(v1:Bool)=>some v1
theorem EV {a0:aO} {a1:aO} (H:pT a0 a1=some r):Fn prog 98 [.agg (fK a0),.agg (fK a1)] [.c (.d (.b r))]:=by
 refine fI func98 ntmps98 ?_
 refine aa H λv1 Hj H=>jR ⟨[(4,tB v1)],[],0⟩ ?_ ?_
 .refine gC Hj ?_ ?_<;>intro H
  .refine aa H λr2 q2 H=>nG (ca (hF:=yN q2)) ?_
   refine gC H ?_ ?_<;>intro H
   .refine aa H λr3 q3 H=>nG (ca (hF:=xC q3)) ?_
    exact ai H
   exact ai H
  exact ai H
 exact ao H
def tJ (a0:aJ) (a1:aJ):Option Bool:=
 abU (bif(eqB a0.df.ID.dN a1.df.ID.dN&&(eqB a0.df.ID.bL a1.df.ID.bL&&(eqB a0.df.eP a1.df.eP&&(eqB a0.df.dm a1.df.dm&&true)))) then(bif eqB a0.bj a1.bj then(bif eqB a0.be a1.be then(bif eqB a0.ag a1.ag then(bif eqB a0.aV a1.aV then(bif eqB a0.aT a1.aT then(bif booB a0.cj a1.cj then(bif eqB a0.eU a1.eU then(abU (pT a0.bV a1.bV) λr2=>some r2) else(some false)) else(some false)) else(some false)) else(some false)) else(some false)) else(some false)) else(some false)) else(some false)) λ(v1:Bool)=>some v1
theorem Ii {a0:aJ} {a1:aJ} (H:tJ a0 a1=some r):Fn prog 40 [.agg (cS a0),.agg (cS a1)] [.c (.d (.b r))]:=by
 refine fI func40 ntmps40 ?_
 refine aa H λv1 Hj H=>jR ⟨[(4,tB v1)],[],0⟩ ?_ ?_
 .refine gC Hj ?_ ?_<;>intro H
  .refine gC H ?_ ?_<;>intro H
   .refine gC H ?_ ?_<;>intro H
    .refine gC H ?_ ?_<;>intro H
     .refine gC H ?_ ?_<;>intro H
      .refine gC H ?_ ?_<;>intro H
       .refine gC H ?_ ?_<;>intro H
        .refine gC H ?_ ?_<;>intro H
         .refine aa H λr2 q2 H=>nG (ca (hF:=EV q2)) ?_
          exact ai H
         exact ai H
        exact ai H
       exact ai H
      exact ai H
     exact ai H
    exact ai H
   exact ai H
  exact ai H
 exact ao H
def zV (a0:bD) (a1:bD):Option Bool:=
 abU (bif eqB a0.iv a1.iv then(bif eqB a0.iu a1.iu then(bif eqB a0.eg a1.eg then(abU (vr a0.bC a1.bC) λr2=>some r2) else(some false)) else(some false)) else(some false)) λ(v1:Bool)=>some v1
theorem Mx {a0:bD} {a1:bD} (H:zV a0 a1=some r):Fn prog 99 [.agg (iA a0),.agg (iA a1)] [.c (.d (.b r))]:=by
 refine fI func99 ntmps99 ?_
 refine aa H λv1 Hj H=>jR ⟨[(4,tB v1)],[],0⟩ ?_ ?_
 .refine gC Hj ?_ ?_<;>intro H
  .refine gC H ?_ ?_<;>intro H
   .refine gC H ?_ ?_<;>intro H
    .refine aa H λr2 q2 H=>nG (ca (hF:=El q2)) ?_
     exact ai H
    exact ai H
   exact ai H
  exact ai H
 exact ao H
def tL (a0:aY) (a1:aY):Option Bool:=
 abU (bif eqB a0.bB a1.bB then(abU (oD a0.aw a1.aw) λr2=>some r2) else(some false)) λ(v1:Bool)=>some v1
theorem Ik {a0:aY} {a1:aY} (H:tL a0 a1=some r):Fn prog 101 [.agg (gz a0),.agg (gz a1)] [.c (.d (.b r))]:=by
 refine fI func101 ntmps101 ?_
 refine aa H λv1 Hj H=>jR ⟨[(4,tB v1)],[],0⟩ ?_ ?_
 .refine gC Hj ?_ ?_<;>intro H
  .refine aa H λr2 q2 H=>nG (ca (hF:=yN q2)) ?_
   exact ai H
  exact ai H
 exact ao H
def qI (a0:am) (a1:am):Int->Option (cq (Int) (Bool))
 |v2=>bif ltB v2 (a0.aj.length:Int) then(abU (ix a0.aj v2) λx3=>abU (ix a1.aj v2) λx4=>bif !(eqB x3.aG x4.aG&&(eqB x3.d8 x4.d8&&true)) then(dn (some false)) else(some (.next (WR (v2+1))))) else(dn (some true))
def rv (a0:am) (a1:am):Option Bool:=
 abU (bif !eqB a0.fw a1.fw then(some true) else(bif !eqB a0.bJ a1.bJ then(some true) else(bif !eqB a0.eD a1.eD then(some true) else(some (!eqB (a0.aj.length:Int) (a1.aj.length:Int)))))) λ(v1:Bool)=>bif v1 then(some false) else(iter (qI a0 a1) FU 0)
theorem GN {a0:am} {a1:am} (H:rv a0 a1=some r):Fn prog 42 [.agg (cN a0),.agg (cN a1)] [.c (.d (.b r))]:=by
 refine fI func42 ntmps42 ?_
 refine aa H λv1 Hj H=>jR ⟨[(2,tP 0),(3,tP 1),(33,tB v1)],[(0,.var 57 (kM [.f] (cZ a0))),(1,.var 57 (kM [.f] (cZ a1)))],2⟩ ?_ ?_
 .exact az Hj
 refine cC H ?_ ?_<;>intro H
 .exact ao H
 refine iT H (λq=>⟨[(2,tP 0),(3,tP 1),(5,tI q)],[(0,.var 57 (kM [.f] (cZ a0))),(1,.var 57 (kM [.f] (cZ a1)))],2⟩) ?_
 rintro v2 o H
 refine ad ?_
 refine cC H ?_ ?_<;>intro H
 .refine dI ?_
  refine aa H λx3 hx3 H=>dA (xdT (enc:=bv) hx3) ?_
  refine aa H λx4 hx4 H=>dA (xdT (enc:=bv) hx4) ?_
  refine wI ?_
  refine cC H ?_ ?_<;>intro H
  .exact aQ H
  exact aN H
 exact aQ H
def wK (a0:bp) (a1:bp):Option Bool:=
 abU (bif eqB a0.cM a1.cM then(bif eqB a0.fE a1.fE then(bif eqB a0.iM a1.iM then(abU (nf a0.bg a1.bg) λr2=>some r2) else(some false)) else(some false)) else(some false)) λ(v1:Bool)=>some v1
theorem GO {a0:bp} {a1:bp} (H:wK a0 a1=some r):Fn prog 162 [.agg (eh a0),.agg (eh a1)] [.c (.d (.b r))]:=by
 refine fI func162 ntmps162 ?_
 refine aa H λv1 Hj H=>jR ⟨[(4,tB v1)],[],0⟩ ?_ ?_
 .refine gC Hj ?_ ?_<;>intro H
  .refine gC H ?_ ?_<;>intro H
   .refine gC H ?_ ?_<;>intro H
    .refine aa H λr2 q2 H=>nG (ca (hF:=wG q2)) ?_
     exact ai H
    exact ai H
   exact ai H
  exact ai H
 exact ao H
def A8 (a0:aA) (a1:aA):Option Bool:=
 abU (bif eqB a0.ag a1.ag then(bif eqB a0.aT a1.aT then(abU (wK a0.bz a1.bz) λr2=>some r2) else(some false)) else(some false)) λ(v1:Bool)=>some v1
theorem Kw {a0:aA} {a1:aA} (H:A8 a0 a1=some r):Fn prog 102 [.agg (dH a0),.agg (dH a1)] [.c (.d (.b r))]:=by
 refine fI func102 ntmps102 ?_
 refine aa H λv1 Hj H=>jR ⟨[(4,tB v1)],[],0⟩ ?_ ?_
 .refine gC Hj ?_ ?_<;>intro H
  .refine gC H ?_ ?_<;>intro H
   .refine aa H λr2 q2 H=>nG (ca (hF:=GO q2)) ?_
    exact ai H
   exact ai H
  exact ai H
 exact ao H
end Go.AM
