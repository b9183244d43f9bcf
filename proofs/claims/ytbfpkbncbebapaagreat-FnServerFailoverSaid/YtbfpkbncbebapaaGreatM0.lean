/- A part. -/
import Derived.Test.YtbfpkbncbebapaaGreatG
set_option linter.unusedVariables false
open Option renaming bind->YL
namespace Go.AM
open Go.Proofs
open Tryz
attribute [local irreducible] AWN NS AWO AWR AWC DR dQ gQ
set_option maxRecDepth 100000
set_option maxHeartbeats 40000000
def VO (a0:List Int):Option Bool:=
 some (ltB 1048576 (a0.length:Int))
theorem VP {a0:List Int} {r:Bool} (H:VO a0=some r):Fn prog 10 [aL (a0.map eU8)] [.c (.d (.b r))]:=by
 refine fI func10 ntmps10 ?_
 exact ao H
def lat (a0:List Int) (a1:Int):Option Int:=
 bif ltB a1 (a0.length:Int) then(YL (ix a0 a1) λx1=>some (WR (x1))) else(some (Int.tmod (WR ((WR (a1*31))+(WR ((a0.length:Int)*7)))) 256))
theorem lat_c {a0:List Int} {a1:Int} {r:Int} (H:lat a0 a1=some r):Fn prog 12 [aL (a0.map eU8),aI a1] [.c (.d (.i .i64 r))]:=by
 refine fI func12 ntmps12 ?_
 refine cC H ?_ ?_<;>intro H
 .refine aa H λx1 hx1 H=>nA (xdT (enc:=eU8) hx1) ?_
  exact ao H
 refine nA (ir rfl rfl rfl (by decide)) ?_
 exact ao H
def s3 (a0:List Int) (a1:List Int):Int->Option (cf (Int) (Bool))
 |v1=>bif ltB v1 (a0.length:Int) then(YL (ix a0 v1) λx2=>YL (ix a1 v1) λx3=>bif !eqB x2 x3 then(dn (some false)) else(some (.next (WR (v1+1))))) else(dn (some true))
def lQ (a0:List Int) (a1:List Int):Option Bool:=
 bif !eqB (a0.length:Int) (a1.length:Int) then(some false) else(iter (s3 a0 a1) FU 0)
theorem ur {a0:List Int} {a1:List Int} {r:Bool} (H:lQ a0 a1=some r):Fn prog 82 [aL (a0.map eU8),aL (a1.map eU8)] [.c (.d (.b r))]:=by
 refine fI func82 ntmps82 ?_
 refine cC H ?_ ?_<;>intro H
 .exact ao H
 refine iT H (λq=>⟨[(0,.v (.c (.d false (.l (a0.map eU8))))),(1,.v (.c (.d false (.l (a1.map eU8))))),(5,tI q)],[],0⟩) ?_
 rintro v1 o H
 try dsimp only
 refine wI ?_
 refine cC H ?_ ?_<;>intro H
 .refine dI ?_
  refine aa H λx2 hx2 H=>dA (xdT (enc:=eU8) hx2) ?_
  refine aa H λx3 hx3 H=>dA (xdT (enc:=eU8) hx3) ?_
  refine wI ?_
  refine cC H ?_ ?_<;>intro H
  .obtain⟨r0,Hd,rfl⟩:=dnE H
   refine f6 (λhq=>?_)
   have H:=Hd.trans (congrArg some hq)
   refine wI ?_
   exact ao H
  cases H
  refine dy ?_
  exact wo
 obtain⟨r0,Hd,rfl⟩:=dnE H
 refine dF (λhq=>?_)
 have H:=Hd.trans (congrArg some hq)
 refine wI ?_
 exact ao H
def pf (a0:List ae) (a1:List ae):Int->Option (cf (Int) (Bool))
 |v1=>bif ltB v1 (a0.length:Int) then(YL (ix a0 v1) λx2=>YL (ix a1 v1) λx3=>YL (bif !eqB x2.cV x3.cV then(some true) else(YL (ix a0 v1) λx5=>YL (ix a1 v1) λx6=>YL (lQ x5.aS x6.aS) λr7=>some (!r7))) λ(v4:Bool)=>bif v4 then(dn (some false)) else(some (.next (WR (v1+1))))) else(dn (some true))
def mJ (a0:List ae) (a1:List ae):Option Bool:=
 bif !eqB (a0.length:Int) (a1.length:Int) then(some false) else(iter (pf a0 a1) FU 0)
theorem vX {a0:List ae} {a1:List ae} {r:Bool} (H:mJ a0 a1=some r):Fn prog 60 [aL (a0.map av),aL (a1.map av)] [.c (.d (.b r))]:=by
 refine fI func60 ntmps60 ?_
 refine cC H ?_ ?_<;>intro H
 .exact ao H
 refine iT H (λq=>⟨[(0,.v (.c (.d false (.l (a0.map av))))),(1,.v (.c (.d false (.l (a1.map av))))),(5,tI q)],[],0⟩) ?_
 rintro v1 o H
 try dsimp only
 refine wI ?_
 refine cC H ?_ ?_<;>intro H
 .refine dI ?_
  refine aa H λx2 hx2 H=>dA (xdT (enc:=av) hx2) ?_
  refine aa H λx3 hx3 H=>dA (xdT (enc:=av) hx3) ?_
  refine aa H λv4 Hj H=>et ⟨[(0,.v (.c (.d false (.l (a0.map av))))),(1,.v (.c (.d false (.l (a1.map av))))),(5,tI v1),(41,tB v4)],[],0⟩ ?_ ?_
  .have H:=Hj
   refine wI ?_
   refine dC H ?_ ?_<;>intro H
   .refine wI ?_
    exact ai H
   refine aa H λx5 hx5 H=>dG (xdT (enc:=av) hx5) ?_
   refine aa H λx6 hx6 H=>dG (xdT (enc:=av) hx6) ?_
   refine aa H λr7 q7 H=>dG (ca (hF:=ur q7)) ?_
   refine wI ?_
   exact ai H
  refine wI ?_
  refine cC H ?_ ?_<;>intro H
  .refine wI ?_
   obtain⟨r0,Hd,rfl⟩:=dnE H
   refine f6 (λhq=>?_)
   have H:=Hd.trans (congrArg some hq)
   refine wI ?_
   exact ao H
  refine wI ?_
  cases H
  refine dy ?_
  exact wo
 obtain⟨r0,Hd,rfl⟩:=dnE H
 refine dF (λhq=>?_)
 have H:=Hd.trans (congrArg some hq)
 refine wI ?_
 exact ao H
def lX (a0:aX) (a1:aX):Option Bool:=
 YL (bif eqB a0.bz a1.bz then(YL (mJ a0.az a1.az) λr2=>some r2) else(some false)) λ(v1:Bool)=>some v1
theorem yb {a0:aX} {a1:aX} {r:Bool} (H:lX a0 a1=some r):Fn prog 19 [.agg (gz a0),.agg (gz a1)] [.c (.d (.b r))]:=by
 refine fI func19 ntmps19 ?_
 refine aa H λv1 Hj H=>jR ⟨[(4,tB v1)],[],0⟩ ?_ ?_
 .refine gC Hj ?_ ?_<;>intro H
  .refine aa H λr2 q2 H=>nG (ca (hF:=vX q2)) ?_
   exact ai H
  exact ai H
 exact ao H
def nT (a0:List bm) (a1:List bm):Int->Option (cf (Int) (Bool))
 |v1=>bif ltB v1 (a0.length:Int) then(YL (ix a0 v1) λx2=>YL (ix a1 v1) λx3=>YL (lQ x2.aS x3.aS) λr4=>bif !r4 then(dn (some false)) else(some (.next (WR (v1+1))))) else(dn (some true))
def jD (a0:List bm) (a1:List bm):Option Bool:=
 bif !eqB (a0.length:Int) (a1.length:Int) then(some false) else(iter (nT a0 a1) FU 0)
theorem uZ {a0:List bm} {a1:List bm} {r:Bool} (H:jD a0 a1=some r):Fn prog 30 [aL (a0.map cd),aL (a1.map cd)] [.c (.d (.b r))]:=by
 refine fI func30 ntmps30 ?_
 refine cC H ?_ ?_<;>intro H
 .exact ao H
 refine iT H (λq=>⟨[(0,.v (.c (.d false (.l (a0.map cd))))),(1,.v (.c (.d false (.l (a1.map cd))))),(5,tI q)],[],0⟩) ?_
 rintro v1 o H
 try dsimp only
 refine wI ?_
 refine cC H ?_ ?_<;>intro H
 .refine dI ?_
  refine aa H λx2 hx2 H=>dA (xdT (enc:=cd) hx2) ?_
  refine aa H λx3 hx3 H=>dA (xdT (enc:=cd) hx3) ?_
  refine aa H λr4 q4 H=>dA (ca (hF:=ur q4)) ?_
  refine wI ?_
  refine cC H ?_ ?_<;>intro H
  .obtain⟨r0,Hd,rfl⟩:=dnE H
   refine f6 (λhq=>?_)
   have H:=Hd.trans (congrArg some hq)
   refine wI ?_
   exact ao H
  cases H
  refine dy ?_
  exact wo
 obtain⟨r0,Hd,rfl⟩:=dnE H
 refine dF (λhq=>?_)
 have H:=Hd.trans (congrArg some hq)
 refine wI ?_
 exact ao H
def ut (a0:List Int) (a1:List Int):Int->Option (cf (Int) (Bool))
 |v1=>bif ltB v1 (a0.length:Int) then(YL (ix a0 v1) λx2=>YL (ix a1 v1) λx3=>bif !eqB x2 x3 then(dn (some false)) else(some (.next (WR (v1+1))))) else(dn (some true))
def tz (a0:List Int) (a1:List Int):Option Bool:=
 bif !eqB (a0.length:Int) (a1.length:Int) then(some false) else(iter (ut a0 a1) FU 0)
theorem BD {a0:List Int} {a1:List Int} {r:Bool} (H:tz a0 a1=some r):Fn prog 118 [aL (a0.map eI),aL (a1.map eI)] [.c (.d (.b r))]:=by
 refine fI func118 ntmps118 ?_
 refine cC H ?_ ?_<;>intro H
 .exact ao H
 refine iT H (λq=>⟨[(0,.v (.c (.d false (.l (a0.map eI))))),(1,.v (.c (.d false (.l (a1.map eI))))),(5,tI q)],[],0⟩) ?_
 rintro v1 o H
 try dsimp only
 refine wI ?_
 refine cC H ?_ ?_<;>intro H
 .refine dI ?_
  refine aa H λx2 hx2 H=>dA (xdT (enc:=eI) hx2) ?_
  refine aa H λx3 hx3 H=>dA (xdT (enc:=eI) hx3) ?_
  refine wI ?_
  refine cC H ?_ ?_<;>intro H
  .obtain⟨r0,Hd,rfl⟩:=dnE H
   refine f6 (λhq=>?_)
   have H:=Hd.trans (congrArg some hq)
   refine wI ?_
   exact ao H
  cases H
  refine dy ?_
  exact wo
 obtain⟨r0,Hd,rfl⟩:=dnE H
 refine dF (λhq=>?_)
 have H:=Hd.trans (congrArg some hq)
 refine wI ?_
 exact ao H
def xn (a0:bk) (a1:bk):Option Bool:=
 YL (bif eqB a0.gH a1.gH then(bif eqB a0.gG a1.gG then(bif eqB a0.eg a1.eg then(YL (tz a0.bj a1.bj) λr2=>some r2) else(some false)) else(some false)) else(some false)) λ(v1:Bool)=>some v1
theorem Jz {a0:bk} {a1:bk} {r:Bool} (H:xn a0 a1=some r):Fn prog 61 [.agg (gL a0),.agg (gL a1)] [.c (.d (.b r))]:=by
 refine fI func61 ntmps61 ?_
 refine aa H λv1 Hj H=>jR ⟨[(4,tB v1)],[],0⟩ ?_ ?_
 .refine gC Hj ?_ ?_<;>intro H
  .refine gC H ?_ ?_<;>intro H
   .refine gC H ?_ ?_<;>intro H
    .refine aa H λr2 q2 H=>nG (ca (hF:=BD q2)) ?_
     exact ai H
    exact ai H
   exact ai H
  exact ai H
 exact ao H
def kC (a0:ah) (a1:ah):Option Bool:=
 YL (bif !(eqB a0.bC.ID.du a1.bC.ID.du&&(eqB a0.bC.ID.bK a1.bC.ID.bK&&(eqB a0.bC.eP a1.bC.eP&&(eqB a0.bC.cV a1.bC.cV&&true)))) then(some true) else(YL (xn a0.g7 a1.g7) λr2=>bif !r2 then(some true) else(bif !eqB a0.bu a1.bu then(some true) else(bif !(eqB a0.aF.fj a1.aF.fj&&(eqB a0.aF.hO a1.aF.hO&&(eqB a0.aF.iZ a1.aF.iZ&&(eqB a0.aF.vp a1.aF.vp&&(eqB a0.aF.eP a1.aF.eP&&true))))) then(some true) else(bif !eqB a0.bF a1.bF then(some true) else(bif !eqB a0.ag a1.ag then(some true) else(bif !eqB a0.aO a1.aO then(some true) else(bif !eqB a0.a9 a1.a9 then(some true) else(some (!eqB a0.bg a1.bg)))))))))) λ(v1:Bool)=>bif v1 then(some false) else(YL (bif eqB a0.d9 a1.d9 then(bif(eqB a0.gZ.fB a1.gZ.fB&&(eqB a0.gZ.eM a1.gZ.eM&&(eqB a0.gZ.f5 a1.gZ.f5&&true))) then(YL (jD a0.aA a1.aA) λr4=>bif r4 then(YL (lX a0.aw a1.aw) λr5=>bif r5 then(bif eqB a0.d7 a1.d7 then(some (eqB a0.bM.ax a1.bM.ax&&(eqB a0.bM.cH a1.bM.cH&&(eqB a0.bM.ed a1.bM.ed&&true)))) else(some false)) else(some false)) else(some false)) else(some false)) else(some false)) λ(v3:Bool)=>some v3)
theorem qC {a0:ah} {a1:ah} {r:Bool} (H:kC a0 a1=some r):Fn prog 20 [.agg (bB a0),.agg (bB a1)] [.c (.d (.b r))]:=by
 refine fI func20 ntmps20 ?_
 refine aa H λv1 Hj H=>jR ⟨[(2,tP 0),(3,tP 1),(66,tB v1)],[(0,.var 69 (kM [.f,.f,.f] (b8 a0))),(1,.var 69 (kM [.f,.f,.f] (b8 a1)))],2⟩ ?_ ?_
 .refine gC Hj ?_ ?_<;>intro H
  .exact ai H
  refine aa H λr2 q2 H=>nG (ca (hF:=Jz q2)) ?_
  refine gC H ?_ ?_<;>intro H
  .exact ai H
  refine gC H ?_ ?_<;>intro H
  .exact ai H
  refine gC H ?_ ?_<;>intro H
  .exact ai H
  refine gC H ?_ ?_<;>intro H
  .exact ai H
  refine gC H ?_ ?_<;>intro H
  .exact ai H
  refine gC H ?_ ?_<;>intro H
  .exact ai H
  refine gC H ?_ ?_<;>intro H
  .exact ai H
  exact ai H
 refine cC H ?_ ?_<;>intro H
 .exact ao H
 refine aa H λv3 Hj H=>jR ⟨[(4,tB v3)],[],0⟩ ?_ ?_
 .refine gC Hj ?_ ?_<;>intro H
  .refine gC H ?_ ?_<;>intro H
   .refine aa H λr4 q4 H=>nG (ca (hF:=uZ q4)) ?_
    refine gC H ?_ ?_<;>intro H
    .refine aa H λr5 q5 H=>nG (ca (hF:=yb q5)) ?_
     refine gC H ?_ ?_<;>intro H
     .refine gC H ?_ ?_<;>intro H
      .exact ai H
      exact ai H
     exact ai H
    exact ai H
   exact ai H
  exact ai H
 exact ao H
def vW (a0:aM) (a1:aM):Int->Option (cf (Int) (Bool))
 |v1=>bif ltB v1 (a0.aR.length:Int) then(YL (ix a0.aR v1) λx2=>YL (ix a1.aR v1) λx3=>YL (bif !eqB x2.fB x3.fB then(some true) else(YL (ix a0.aR v1) λx5=>YL (ix a1.aR v1) λx6=>YL (tz x5.bX x6.bX) λr7=>some (!r7))) λ(v4:Bool)=>bif v4 then(dn (some false)) else(some (.next (WR (v1+1))))) else(dn (some true))
def zL (a0:aM) (a1:aM):Option Bool:=
 bif !eqB (a0.aR.length:Int) (a1.aR.length:Int) then(some false) else(iter (vW a0 a1) FU 0)
theorem Lf {a0:aM} {a1:aM} {r:Bool} (H:zL a0 a1=some r):Fn prog 50 [.agg (gI a0),.agg (gI a1)] [.c (.d (.b r))]:=by
 refine fI func50 ntmps50 ?_
 refine cC H ?_ ?_<;>intro H
 .exact ao H
 refine iT H (λq=>⟨[(2,tP 0),(3,tP 1),(5,tI q)],[(0,.var 26 [.d false (.l (a0.aR.map cQ))]),(1,.var 26 [.d false (.l (a1.aR.map cQ))])],2⟩) ?_
 rintro v1 o H
 try dsimp only
 refine wI ?_
 refine cC H ?_ ?_<;>intro H
 .refine dI ?_
  refine aa H λx2 hx2 H=>dA (xdT (enc:=cQ) hx2) ?_
  refine aa H λx3 hx3 H=>dA (xdT (enc:=cQ) hx3) ?_
  refine aa H λv4 Hj H=>et ⟨[(2,tP 0),(3,tP 1),(5,tI v1),(48,tB v4)],[(0,.var 26 [.d false (.l (a0.aR.map cQ))]),(1,.var 26 [.d false (.l (a1.aR.map cQ))])],2⟩ ?_ ?_
  .have H:=Hj
   refine wI ?_
   refine dC H ?_ ?_<;>intro H
   .refine wI ?_
    exact ai H
   refine aa H λx5 hx5 H=>dG (xdT (enc:=cQ) hx5) ?_
   refine aa H λx6 hx6 H=>dG (xdT (enc:=cQ) hx6) ?_
   refine aa H λr7 q7 H=>dG (ca (hF:=BD q7)) ?_
   refine wI ?_
   exact ai H
  refine wI ?_
  refine cC H ?_ ?_<;>intro H
  .refine wI ?_
   obtain⟨r0,Hd,rfl⟩:=dnE H
   refine f6 (λhq=>?_)
   have H:=Hd.trans (congrArg some hq)
   refine wI ?_
   exact ao H
  refine wI ?_
  cases H
  refine dy ?_
  exact wo
 obtain⟨r0,Hd,rfl⟩:=dnE H
 refine dF (λhq=>?_)
 have H:=Hd.trans (congrArg some hq)
 refine wI ?_
 exact ao H
def ou (a0:aK) (a1:aK):Option Bool:=
 YL (bif eqB a0.bz a1.bz then(YL (mJ a0.aF a1.aF) λr2=>bif r2 then(YL (jD a0.aQ a1.aQ) λr3=>some r3) else(some false)) else(some false)) λ(v1:Bool)=>some v1
theorem Ca {a0:aK} {a1:aK} {r:Bool} (H:ou a0 a1=some r):Fn prog 119 [.agg (gj a0),.agg (gj a1)] [.c (.d (.b r))]:=by
 refine fI func119 ntmps119 ?_
 refine aa H λv1 Hj H=>jR ⟨[(4,tB v1)],[],0⟩ ?_ ?_
 .refine gC Hj ?_ ?_<;>intro H
  .refine aa H λr2 q2 H=>nG (ca (hF:=vX q2)) ?_
   refine gC H ?_ ?_<;>intro H
   .refine aa H λr3 q3 H=>nG (ca (hF:=uZ q3)) ?_
    exact ai H
   exact ai H
  exact ai H
 exact ao H
def o8 (a0:am) (a1:am):Int->Option (cf (Int) (Bool))
 |v2=>bif ltB v2 (a0.aq.length:Int) then(YL (ix a0.aq v2) λx3=>YL (ix a1.aq v2) λx4=>bif !(eqB x3.ax x4.ax&&(eqB x3.dV x4.dV&&true)) then(dn (some false)) else(some (.next (WR (v2+1))))) else(dn (some true))
def pO (a0:am) (a1:am):Option Bool:=
 YL (bif !eqB a0.eJ a1.eJ then(some true) else(bif !eqB a0.bQ a1.bQ then(some true) else(bif !eqB a0.er a1.er then(some true) else(some (!eqB (a0.aq.length:Int) (a1.aq.length:Int)))))) λ(v1:Bool)=>bif v1 then(some false) else(iter (o8 a0 a1) FU 0)
theorem DG {a0:am} {a1:am} {r:Bool} (H:pO a0 a1=some r):Fn prog 52 [.agg (cp a0),.agg (cp a1)] [.c (.d (.b r))]:=by
 refine fI func52 ntmps52 ?_
 refine aa H λv1 Hj H=>jR ⟨[(2,tP 0),(3,tP 1),(33,tB v1)],[(0,.var 89 (kM [.f] (cG a0))),(1,.var 89 (kM [.f] (cG a1)))],2⟩ ?_ ?_
 .refine gC Hj ?_ ?_<;>intro H
  .exact ai H
  refine gC H ?_ ?_<;>intro H
  .exact ai H
  refine gC H ?_ ?_<;>intro H
  .exact ai H
  exact ai H
 refine cC H ?_ ?_<;>intro H
 .exact ao H
 refine iT H (λq=>⟨[(2,tP 0),(3,tP 1),(5,tI q)],[(0,.var 89 (kM [.f] (cG a0))),(1,.var 89 (kM [.f] (cG a1)))],2⟩) ?_
 rintro v2 o H
 try dsimp only
 refine wI ?_
 refine cC H ?_ ?_<;>intro H
 .refine dI ?_
  refine aa H λx3 hx3 H=>dA (xdT (enc:=aZ) hx3) ?_
  refine aa H λx4 hx4 H=>dA (xdT (enc:=aZ) hx4) ?_
  refine wI ?_
  refine cC H ?_ ?_<;>intro H
  .obtain⟨r0,Hd,rfl⟩:=dnE H
   refine f6 (λhq=>?_)
   have H:=Hd.trans (congrArg some hq)
   refine wI ?_
   exact ao H
  cases H
  refine dy ?_
  exact wo
 obtain⟨r0,Hd,rfl⟩:=dnE H
 refine dF (λhq=>?_)
 have H:=Hd.trans (congrArg some hq)
 refine wI ?_
 exact ao H
def uu (a0:bw) (a1:bw):Option Bool:=
 YL (bif eqB a0.di a1.di then(bif eqB a0.fP a1.fP then(bif eqB a0.iZ a1.iZ then(YL (lQ a0.aS a1.aS) λr2=>some r2) else(some false)) else(some false)) else(some false)) λ(v1:Bool)=>some v1
theorem DI {a0:bw} {a1:bw} {r:Bool} (H:uu a0 a1=some r):Fn prog 185 [.agg (eE a0),.agg (eE a1)] [.c (.d (.b r))]:=by
 refine fI func185 ntmps185 ?_
 refine aa H λv1 Hj H=>jR ⟨[(4,tB v1)],[],0⟩ ?_ ?_
 .refine gC Hj ?_ ?_<;>intro H
  .refine gC H ?_ ?_<;>intro H
   .refine gC H ?_ ?_<;>intro H
    .refine aa H λr2 q2 H=>nG (ca (hF:=ur q2)) ?_
     exact ai H
    exact ai H
   exact ai H
  exact ai H
 exact ao H
def yD (a0:aC) (a1:aC):Option Bool:=
 YL (bif eqB a0.ag a1.ag then(bif eqB a0.a9 a1.a9 then(YL (uu a0.bp a1.bp) λr2=>some r2) else(some false)) else(some false)) λ(v1:Bool)=>some v1
theorem Hr {a0:aC} {a1:aC} {r:Bool} (H:yD a0 a1=some r):Fn prog 120 [.agg (dR a0),.agg (dR a1)] [.c (.d (.b r))]:=by
 refine fI func120 ntmps120 ?_
 refine aa H λv1 Hj H=>jR ⟨[(4,tB v1)],[],0⟩ ?_ ?_
 .refine gC Hj ?_ ?_<;>intro H
  .refine gC H ?_ ?_<;>intro H
   .refine aa H λr2 q2 H=>nG (ca (hF:=DI q2)) ?_
    exact ai H
   exact ai H
  exact ai H
 exact ao H
end Go.AM
