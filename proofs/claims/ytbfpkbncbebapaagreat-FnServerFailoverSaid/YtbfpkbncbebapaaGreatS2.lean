/- A part. -/
import Derived.Test.YtbfpkbncbebapaaGreatS1
set_option linter.unusedVariables false
open Option renaming bind->YL
namespace Go.AM
open Go.Proofs
open Tryz
attribute [local irreducible] AWN NS AWO AWR AWC DR dQ gQ
set_option maxRecDepth 100000
set_option maxHeartbeats 40000000
def gv (a0:aK):Int->Option (cf (Int) (Bool))
 |v9=>bif ltB v9 (a0.aQ.length:Int) then(YL (ix a0.aQ v9) λx10=>bif ltB 60 (x10.aS.length:Int) then(dn (some false)) else(some (.next (WR (v9+1))))) else(dn (YL (bif eqB a0.bz (WR ((a0.aQ.length:Int)+1)) then(bif leB (a0.aQ.length:Int) 24 then(some (leB (a0.aF.length:Int) 8)) else(some false)) else(some false)) λ(v11:Bool)=>some v11))
def iF (a0:aK):Int->Option (cf (Int) (Bool))
 |v1=>bif ltB v1 (a0.aF.length:Int) then(YL (ix a0.aF v1) λx2=>YL (cO x2.cV (WR (a0.bz+1)) (WR ((WR (a0.bz+8))-1))) λr3=>YL (bif !r3 then(some true) else(bif ltB 0 v1 then(YL (ix a0.aF (WR (v1-1))) λx5=>YL (ix a0.aF v1) λx6=>bif leB x6.cV x5.cV then(some true) else(YL (ix a0.aF v1) λx7=>some (ltB 60 (x7.aS.length:Int)))) else(YL (ix a0.aF v1) λx8=>some (ltB 60 (x8.aS.length:Int))))) λ(v4:Bool)=>bif v4 then(dn (some false)) else(some (.next (WR (v1+1))))) else(dn (iter (gv a0) FU 0))
def iS (a0:aK):Option Bool:=
 iter (iF a0) FU 0
theorem qJ {a0:aK} {r:Bool} (H:iS a0=some r):Fn prog 267 [.agg (gj a0)] [.c (.d (.b r))]:=by
 refine fI func267 ntmps267 ?_
 refine iT H (λq=>⟨[(1,tP 0),(3,tI q)],[(0,.var 82 (kM [.f,.f] (b7 a0)))],1⟩) ?_
 rintro v1 o H
 try dsimp only
 refine wI ?_
 refine cC H ?_ ?_<;>intro H
 .refine dI ?_
  refine aa H λx2 hx2 H=>dA (xdT (enc:=av) hx2) ?_
  refine aa H λr3 q3 H=>dA (ca (hF:=bT q3)) ?_
  refine aa H λv4 Hj H=>et ⟨[(1,tP 0),(3,tI v1),(56,tB v4)],[(0,.var 82 (kM [.f,.f] (b7 a0)))],1⟩ ?_ ?_
  .have H:=Hj
   refine wI ?_
   refine dC H ?_ ?_<;>intro H
   .refine wI ?_
    exact ai H
   refine dC H ?_ ?_<;>intro H
   .refine aa H λx5 hx5 H=>dG (xdT (enc:=av) hx5) ?_
    refine aa H λx6 hx6 H=>dG (xdT (enc:=av) hx6) ?_
    refine dC H ?_ ?_<;>intro H
    .refine wI ?_
     exact ai H
    refine aa H λx7 hx7 H=>dG (xdT (enc:=av) hx7) ?_
    refine wI ?_
    exact ai H
   refine aa H λx8 hx8 H=>dG (xdT (enc:=av) hx8) ?_
   refine wI ?_
   exact ai H
  refine wI ?_
  refine cC H ?_ ?_<;>intro H
  .refine wI ?_
   obtain⟨r0,Hd,rfl⟩:=dnE H
   refine f6 (λhq=>?_)
   have H:=Hd.trans (congrArg some hq)
   refine wI ?_
   exact ao H
  refine wI ?_
  cases H
  refine dy ?_
  exact wo
 obtain⟨r0,Hd,rfl⟩:=dnE H
 refine dF (λhq=>?_)
 have H:=Hd.trans (congrArg some hq)
 refine wI ?_
 refine iT H (λq=>⟨[(1,tP 0),(4,tI q)],[(0,.var 82 (kM [.f,.f] (b7 a0)))],1⟩) ?_
 rintro v9 o H
 try dsimp only
 refine wI ?_
 refine cC H ?_ ?_<;>intro H
 .refine aa H λx10 hx10 H=>nA (xdT (enc:=cd) hx10) ?_
  refine cC H ?_ ?_<;>intro H
  .obtain⟨r0,Hd,rfl⟩:=dnE H
   refine f6 (λhq=>?_)
   have H:=Hd.trans (congrArg some hq)
   refine wI ?_
   exact ao H
  cases H
  refine dy ?_
  exact wo
 obtain⟨r0,Hd,rfl⟩:=dnE H
 refine dF (λhq=>?_)
 have H:=Hd.trans (congrArg some hq)
 refine wI ?_
 refine aa H λv11 Hj H=>jR ⟨[(2,tB v11)],[],0⟩ ?_ ?_
 .refine gC Hj ?_ ?_<;>intro H
  .refine gC H ?_ ?_<;>intro H
   .exact ai H
   exact ai H
  exact ai H
 exact ao H
def gE (a0:cT):Option Bool:=
 YL (bif leB 0 a0.ax then(YL (cO a0.cH 0 100000) λr2=>bif r2 then(YL (cO a0.ed 0 a0.cH) λr3=>some r3) else(some false)) else(some false)) λ(v1:Bool)=>some v1
theorem jr {a0:cT} {r:Bool} (H:gE a0=some r):Fn prog 154 [.agg (pG a0)] [.c (.d (.b r))]:=by
 refine fI func154 ntmps154 ?_
 refine aa H λv1 Hj H=>jR ⟨[(2,tB v1)],[],0⟩ ?_ ?_
 .refine gC Hj ?_ ?_<;>intro H
  .refine aa H λr2 q2 H=>nG (ca (hF:=bT q2)) ?_
   refine gC H ?_ ?_<;>intro H
   .refine aa H λr3 q3 H=>nG (ca (hF:=bT q3)) ?_
    exact ai H
   exact ai H
  exact ai H
 exact ao H
def mW (a0:cP):Option Bool:=
 YL (cO a0.fB 0 2) λr1=>YL (bif r1 then(YL (cO a0.eM 0 4) λr3=>bif r3 then(YL (cO a0.f5 0 3) λr4=>some r4) else(some false)) else(some false)) λ(v2:Bool)=>some v2
theorem Bd {a0:cP} {r:Bool} (H:mW a0=some r):Fn prog 269 [.agg (sW a0)] [.c (.d (.b r))]:=by
 refine fI func269 ntmps269 ?_
 refine aa H λr1 q1 H=>nA (ca (hF:=bT q1)) ?_
 refine aa H λv2 Hj H=>jR ⟨[(2,tB v2)],[],0⟩ ?_ ?_
 .refine gC Hj ?_ ?_<;>intro H
  .refine aa H λr3 q3 H=>nG (ca (hF:=bT q3)) ?_
   refine gC H ?_ ?_<;>intro H
   .refine aa H λr4 q4 H=>nG (ca (hF:=bT q4)) ?_
    exact ai H
   exact ai H
  exact ai H
 exact ao H
def jV (a0:aX):Int->Option (cf (Int) (Bool))
 |v1=>bif ltB v1 (a0.az.length:Int) then(YL (ix a0.az v1) λx2=>YL (bif !eqB x2.cV (WR ((WR (a0.bz-(a0.az.length:Int)))+v1)) then(some true) else(YL (ix a0.az v1) λx4=>some (ltB 60 (x4.aS.length:Int)))) λ(v3:Bool)=>bif v3 then(dn (some false)) else(some (.next (WR (v1+1))))) else(dn (YL (cO a0.bz 1 100000) λr5=>YL (bif r5 then(bif leB (a0.az.length:Int) 8 then(some (leB 1 (WR (a0.bz-(a0.az.length:Int))))) else(some false)) else(some false)) λ(v6:Bool)=>some v6))
def ko (a0:aX):Option Bool:=
 iter (jV a0) FU 0
theorem n9 {a0:aX} {r:Bool} (H:ko a0=some r):Fn prog 319 [.agg (gz a0)] [.c (.d (.b r))]:=by
 refine fI func319 ntmps319 ?_
 refine iT H (λq=>⟨[(1,tP 0),(3,tI q)],[(0,.var 65 (kM [.f] (dY a0)))],1⟩) ?_
 rintro v1 o H
 try dsimp only
 refine wI ?_
 refine cC H ?_ ?_<;>intro H
 .refine dI ?_
  refine aa H λx2 hx2 H=>dA (xdT (enc:=av) hx2) ?_
  refine aa H λv3 Hj H=>et ⟨[(1,tP 0),(3,tI v1),(35,tB v3)],[(0,.var 65 (kM [.f] (dY a0)))],1⟩ ?_ ?_
  .have H:=Hj
   refine wI ?_
   refine dC H ?_ ?_<;>intro H
   .refine wI ?_
    exact ai H
   refine aa H λx4 hx4 H=>dG (xdT (enc:=av) hx4) ?_
   refine wI ?_
   exact ai H
  refine wI ?_
  refine cC H ?_ ?_<;>intro H
  .refine wI ?_
   obtain⟨r0,Hd,rfl⟩:=dnE H
   refine f6 (λhq=>?_)
   have H:=Hd.trans (congrArg some hq)
   refine wI ?_
   exact ao H
  refine wI ?_
  cases H
  refine dy ?_
  exact wo
 obtain⟨r0,Hd,rfl⟩:=dnE H
 refine dF (λhq=>?_)
 have H:=Hd.trans (congrArg some hq)
 refine wI ?_
 refine aa H λr5 q5 H=>nA (ca (hF:=bT q5)) ?_
 refine aa H λv6 Hj H=>jR ⟨[(2,tB v6)],[],0⟩ ?_ ?_
 .refine gC Hj ?_ ?_<;>intro H
  .refine gC H ?_ ?_<;>intro H
   .exact ai H
   exact ai H
  exact ai H
 exact ao H
def je (a0:am):Int->Option (cf (Int) (Bool))
 |v1=>bif ltB v1 (a0.aq.length:Int) then(YL (ix a0.aq v1) λx2=>YL (bif ltB x2.ax 0 then(some true) else(YL (ix a0.aq v1) λx4=>YL (cO x4.dV 1 100000) λr5=>bif !r5 then(some true) else(bif ltB 0 v1 then(YL (ix a0.aq (WR (v1-1))) λx6=>YL (ix a0.aq v1) λx7=>some (leB x7.ax x6.ax)) else(some false)))) λ(v3:Bool)=>bif v3 then(dn (some false)) else(some (.next (WR (v1+1))))) else(dn (YL (cO a0.eJ 0 100000) λr8=>YL (bif r8 then(YL (cO a0.bQ 0 a0.eJ) λr10=>bif r10 then(YL (cO a0.er 0 a0.eJ) λr11=>bif r11 then(bif leB (a0.aq.length:Int) 8 then(YL (nq a0) λr12=>some (eqB (WR ((WR (a0.bQ+a0.er))+r12)) a0.eJ)) else(some false)) else(some false)) else(some false)) else(some false)) λ(v9:Bool)=>some v9))
def gr (a0:am):Option Bool:=
 iter (je a0) FU 0
theorem jU {a0:am} {r:Bool} (H:gr a0=some r):Fn prog 205 [.agg (cp a0)] [.c (.d (.b r))]:=by
 refine fI func205 ntmps205 ?_
 refine iT H (λq=>⟨[(1,tP 0),(3,tI q)],[(0,.var 89 (kM [.f] (cG a0)))],1⟩) ?_
 rintro v1 o H
 try dsimp only
 refine wI ?_
 refine cC H ?_ ?_<;>intro H
 .refine dI ?_
  refine aa H λx2 hx2 H=>dA (xdT (enc:=aZ) hx2) ?_
  refine aa H λv3 Hj H=>et ⟨[(1,tP 0),(3,tI v1),(47,tB v3)],[(0,.var 89 (kM [.f] (cG a0)))],1⟩ ?_ ?_
  .have H:=Hj
   refine wI ?_
   refine dC H ?_ ?_<;>intro H
   .refine wI ?_
    exact ai H
   refine aa H λx4 hx4 H=>dG (xdT (enc:=aZ) hx4) ?_
   refine aa H λr5 q5 H=>dG (ca (hF:=bT q5)) ?_
   refine dC H ?_ ?_<;>intro H
   .refine wI ?_
    exact ai H
   refine dC H ?_ ?_<;>intro H
   .refine aa H λx6 hx6 H=>dG (xdT (enc:=aZ) hx6) ?_
    refine aa H λx7 hx7 H=>dG (xdT (enc:=aZ) hx7) ?_
    refine wI ?_
    exact ai H
   refine wI ?_
   exact ai H
  refine wI ?_
  refine cC H ?_ ?_<;>intro H
  .refine wI ?_
   obtain⟨r0,Hd,rfl⟩:=dnE H
   refine f6 (λhq=>?_)
   have H:=Hd.trans (congrArg some hq)
   refine wI ?_
   exact ao H
  refine wI ?_
  cases H
  refine dy ?_
  exact wo
 obtain⟨r0,Hd,rfl⟩:=dnE H
 refine dF (λhq=>?_)
 have H:=Hd.trans (congrArg some hq)
 refine wI ?_
 refine dI ?_
 refine aa H λr8 q8 H=>dA (ca (hF:=bT q8)) ?_
 refine aa H λv9 Hj H=>et ⟨[(2,tB v9)],[],0⟩ ?_ ?_
 .have H:=Hj
  refine wI ?_
  refine dC H ?_ ?_<;>intro H
  .refine aa H λr10 q10 H=>dG (ca (hF:=bT q10)) ?_
   refine dC H ?_ ?_<;>intro H
   .refine aa H λr11 q11 H=>dG (ca (hF:=bT q11)) ?_
    refine dC H ?_ ?_<;>intro H
    .refine dC H ?_ ?_<;>intro H
     .refine aa H λr12 q12 H=>dG (ca (hF:=Bj q12)) ?_
      refine wI ?_
      exact ai H
     refine wI ?_
     exact ai H
    refine wI ?_
    exact ai H
   refine wI ?_
   exact ai H
  refine wI ?_
  exact ai H
 refine wI ?_
 exact ao H
def nm (a0:am) (a1:Int):Option Int:=
 YL (oT a0 a1) λr1=>bif ltB r1 0 then(some 0) else(YL (ix a0.aq r1) λx2=>some x2.dV)
theorem wz {a0:am} {a1:Int} {r:Int} (H:nm a0 a1=some r):Fn prog 272 [.agg (cp a0),aI a1] [.c (.d (.i .i64 r))]:=by
 refine fI func272 ntmps272 ?_
 refine aa H λr1 q1 H=>nA (ca (hF:=yU q1)) ?_
 refine cC H ?_ ?_<;>intro H
 .exact ao H
 refine aa H λx2 hx2 H=>nA (xdT (enc:=aZ) hx2) ?_
 exact ao H
def ji (a0:ab) (a1:bD):Option Bool:=
 YL (bif ltB (a0.aN.length:Int) 200 then(YL (cO a1.bv 0 (WR ((a0.an.length:Int)-1))) λr2=>bif r2 then(YL (cO a1.bg 0 (WR ((a0.d8.aR.length:Int)-1))) λr3=>some r3) else(some false)) else(some false)) λ(v1:Bool)=>some v1
theorem wU {a0:ab} {a1:bD} {r:Bool} (H:ji a0 a1=some r):Fn prog 99 [.agg (eD a0),.agg (dv a1)] [.c (.d (.b r))]:=by
 refine fI func99 ntmps99 ?_
 refine aa H λv1 Hj H=>jR ⟨[(4,tB v1)],[],0⟩ ?_ ?_
 .refine gC Hj ?_ ?_<;>intro H
  .refine aa H λr2 q2 H=>nG (ca (hF:=bT q2)) ?_
   refine gC H ?_ ?_<;>intro H
   .refine aa H λr3 q3 H=>nG (ca (hF:=bT q3)) ?_
    exact ai H
   exact ai H
  exact ai H
 exact ao H
def s8 (a0:bw) (a1:bw):Option Bool:=
 YL (bif eqB a0.di a1.di then(bif eqB a0.fP a1.fP then(bif eqB a0.iZ a1.iZ then(YL (lZ a0.aS a1.aS) λr2=>some r2) else(some false)) else(some false)) else(some false)) λ(v1:Bool)=>some v1
theorem Ci {a0:bw} {a1:bw} {r:Bool} (H:s8 a0 a1=some r):Fn prog 246 [.agg (eE a0),.agg (eE a1)] [.c (.d (.b r))]:=by
 refine fI func246 ntmps246 ?_
 refine aa H λv1 Hj H=>jR ⟨[(4,tB v1)],[],0⟩ ?_ ?_
 .refine gC Hj ?_ ?_<;>intro H
  .refine gC H ?_ ?_<;>intro H
   .refine gC H ?_ ?_<;>intro H
    .refine aa H λr2 q2 H=>nG (ca (hF:=s7 q2)) ?_
     exact ai H
    exact ai H
   exact ai H
  exact ai H
 exact ao H
def js (a0:bw):Option Bool:=
 YL (cO a0.di 0 1) λr1=>YL (bif r1 then(YL (cO a0.fP 1 100000) λr3=>bif r3 then(bif leB (a0.aS.length:Int) 60 then(YL (cO a0.iZ 0 2147483646) λr4=>some r4) else(some false)) else(some false)) else(some false)) λ(v2:Bool)=>some v2
theorem rV {a0:bw} {r:Bool} (H:js a0=some r):Fn prog 167 [.agg (eE a0)] [.c (.d (.b r))]:=by
 refine fI func167 ntmps167 ?_
 refine aa H λr1 q1 H=>nA (ca (hF:=bT q1)) ?_
 refine aa H λv2 Hj H=>jR ⟨[(2,tB v2)],[],0⟩ ?_ ?_
 .refine gC Hj ?_ ?_<;>intro H
  .refine aa H λr3 q3 H=>nG (ca (hF:=bT q3)) ?_
   refine gC H ?_ ?_<;>intro H
   .refine gC H ?_ ?_<;>intro H
    .refine aa H λr4 q4 H=>nG (ca (hF:=bT q4)) ?_
     exact ai H
    exact ai H
   exact ai H
  exact ai H
 exact ao H
def Fp (a0:Int) (a1:Int):Option Int:=
 YL (cO a1 1 1000000000000) λr1=>bif !r1 then(some 0) else(bif !eqB a1 0 then(bif !eqB a1 0 then(some (Int.tmod (WR ((Int.tmod a0 a1)+a1)) a1)) else none) else none)
theorem yL {a0:Int} {a1:Int} {r:Int} (H:Fp a0 a1=some r):Fn prog 314 [aI a0,aI a1] [.c (.d (.i .i64 r))]:=by
 refine fI func314 ntmps314 ?_
 refine aa H λr1 q1 H=>nA (ca (hF:=bT q1)) ?_
 refine cC H ?_ ?_<;>intro H
 .exact ao H
 obtain⟨h,H⟩:=rq H
 refine nA (ir rfl rfl rfl (ne0 h)) ?_
 obtain⟨h,H⟩:=rq H
 refine nA (ir rfl rfl rfl (ne0 h)) ?_
 exact ao H
def gu (a0:aM) (a2:Int):(Int×List Int)->Option (cf (Int×List Int) (List Int))
 |(v3,v4)=>YL (bif ltB v3 (a0.aR.length:Int) then(YL (cO a2 1 4) λr9=>some r9) else(some false)) λ(v8:Bool)=>bif v8 then(bif dh 8 (v4++[v3]).length then(some (.next (WR (v3+1),(v4++[v3])))) else none) else(some (.done v4))
def pX (a0:aM) (a1:Int) (a2:Int):Option (List Int):=
 YL (pU a0 a1) λr1=>YL (bif eqB a2 1 then(some (ltB 0 (r1.length:Int))) else(some false)) λ(v2:Bool)=>bif v2 then(some r1) else(YL (iter (gu a0 a2) FU (0,([]:List Int))) λ(v7:List Int)=>some v7)
theorem Ea {a0:aM} {a1:Int} {a2:Int} {r:List Int} (H:pX a0 a1 a2=some r):Fn prog 377 [.agg (gI a0),aI a1,aI a2] [.c (.own 3 1 (r.map eI) r.length)]:=by
 refine fI func377 ntmps377 ?_
 refine aa H λr1 q1 H=>nA (ca (hF:=D5 q1)) ?_
 refine aa H λv2 Hj H=>jR ⟨[(2,tI a2),(3,tP 0),(7,.v (.c (.w 1 r1.length))),(19,tB v2)],[(0,.var 26 [.d false (.l (a0.aR.map cQ))]),(1,w3 r1)],2⟩ ?_ ?_
 .refine gC Hj ?_ ?_<;>intro H
  .exact ai H
  exact ai H
 refine cC H ?_ ?_<;>intro H
 .exact ao H
 refine aa H λv7 Hj H=>jB ⟨[(8,.v (.c (.w 2 v7.length)))],[(2,w3 v7)],3⟩ ?_ ?_
 .refine iT Hj (λq=>⟨[(2,tI a2),(3,tP 0),(8,.v (.c (.w 2 q.2.length))),(9,tI q.1)],[(0,.var 26 [.d false (.l (a0.aR.map cQ))]),(2,w3 q.2)],3⟩) ?_
  rintro⟨v3,v4⟩ o H
  try dsimp only
  refine wI ?_
  refine aa H λv8 Hj H=>jR ⟨[(2,tI a2),(3,tP 0),(8,.v (.c (.w 2 v4.length))),(9,tI v3),(30,tB v8)],[(0,.var 26 [.d false (.l (a0.aR.map cQ))]),(2,w3 v4)],3⟩ ?_ ?_
  .refine gC Hj ?_ ?_<;>intro H
   .refine aa H λr9 q9 H=>nG (ca (hF:=bT q9)) ?_
    exact ai H
   exact ai H
  refine cC H ?_ ?_<;>intro H
  .obtain⟨h,H⟩:=rq H
   refine sA (apT (enc:=eI) (ys:=v4) (zs:=[v3]) h) ?_
   cases H
   refine dy ?_
   exact wo
  cases H
  refine dF (λhq=>?_)
  cases hq
  refine wI ?_
  exact wo
 exact ao H
def na (a0:ah):Option Int:=
 YL (oh a0.aw.az) λr1=>some r1
theorem xS {a0:ah} {r:Int} (H:na a0=some r):Fn prog 379 [.agg (bB a0)] [.c (.d (.i .i64 r))]:=by
 refine fI func379 ntmps379 ?_
 refine aa H λr1 q1 H=>nA (ca (hF:=sC q1)) ?_
 exact ao H
def tK (a0:ab) (a1:Int):Option Bool:=
 YL (yK (a0.d8.aR.length:Int) 6) λr1=>YL (cO a1 0 (WR (r1-1))) λr2=>YL (bif r2 then(bif leB 0 a1 then(some (eqB (vi .i64 (yq .i64 a0.cZ a1) 1) 0)) else none) else(some false)) λ(v3:Bool)=>some v3
theorem BK {a0:ab} {a1:Int} {r:Bool} (H:tK a0 a1=some r):Fn prog 91 [.agg (eD a0),aI a1] [.c (.d (.b r))]:=by
 refine fI func91 ntmps91 ?_
 refine aa H λr1 q1 H=>nA (ca (hF:=wu q1)) ?_
 refine aa H λr2 q2 H=>nA (ca (hF:=bT q2)) ?_
 refine aa H λv3 Hj H=>jR ⟨[(4,tB v3)],[],0⟩ ?_ ?_
 .refine gC Hj ?_ ?_<;>intro H
  .obtain⟨h,H⟩:=rq H
   refine nG (B8 h rfl rfl rfl rfl) ?_
   exact ai H
  exact ai H
 exact ao H
def kq (a0:aH):Option Bool:=
 YL (cO a0.aV 1 8) λr1=>YL (bif r1 then(YL (cO a0.bg 0 5) λr3=>bif r3 then(YL (cO a0.ag 0 999999) λr4=>bif r4 then(YL (cO a0.a9 0 999999) λr5=>bif r5 then(YL (cO a0.bK 0 1000000000000) λr6=>some r6) else(some false)) else(some false)) else(some false)) else(some false)) λ(v2:Bool)=>some v2
theorem tL {a0:aH} {r:Bool} (H:kq a0=some r):Fn prog 367 [.agg (ey a0)] [.c (.d (.b r))]:=by
 refine fI func367 ntmps367 ?_
 refine aa H λr1 q1 H=>nA (ca (hF:=bT q1)) ?_
 refine aa H λv2 Hj H=>jR ⟨[(2,tB v2)],[],0⟩ ?_ ?_
 .refine gC Hj ?_ ?_<;>intro H
  .refine aa H λr3 q3 H=>nG (ca (hF:=bT q3)) ?_
   refine gC H ?_ ?_<;>intro H
   .refine aa H λr4 q4 H=>nG (ca (hF:=bT q4)) ?_
    refine gC H ?_ ?_<;>intro H
    .refine aa H λr5 q5 H=>nG (ca (hF:=bT q5)) ?_
     refine gC H ?_ ?_<;>intro H
     .refine aa H λr6 q6 H=>nG (ca (hF:=bT q6)) ?_
      exact ai H
     exact ai H
    exact ai H
   exact ai H
  exact ai H
 exact ao H
def AD (a0:ab) (a1:Int):Option Bool:=
 YL (yK (a0.an.length:Int) (a0.aj.length:Int)) λr1=>YL (cO a1 0 (WR (r1-1))) λr2=>some r2
theorem Gy {a0:ab} {a1:Int} {r:Bool} (H:AD a0 a1=some r):Fn prog 130 [.agg (eD a0),aI a1] [.c (.d (.b r))]:=by
 refine fI func130 ntmps130 ?_
 refine aa H λr1 q1 H=>nA (ca (hF:=wu q1)) ?_
 refine aa H λr2 q2 H=>nA (ca (hF:=bT q2)) ?_
 exact ao H
def wK (a0:List bm) (a1:List bm):Int->Option (cf (Int) (Bool))
 |v1=>bif ltB v1 (a0.length:Int) then(YL (ix a0 v1) λx2=>YL (ix a1 v1) λx3=>YL (lZ x2.aS x3.aS) λr4=>bif !r4 then(dn (some false)) else(some (.next (WR (v1+1))))) else(dn (some true))
def Aq (a0:List bm) (a1:List bm):Option Bool:=
 bif !eqB (a0.length:Int) (a1.length:Int) then(some false) else(iter (wK a0 a1) FU 0)
theorem LS {a0:List bm} {a1:List bm} {r:Bool} (H:Aq a0 a1=some r):Fn prog 201 [aL (a0.map cd),aL (a1.map cd)] [.c (.d (.b r))]:=by
 refine fI func201 ntmps201 ?_
 refine cC H ?_ ?_<;>intro H
 .exact ao H
 refine iT H (λq=>⟨[(0,.v (.c (.d false (.l (a0.map cd))))),(1,.v (.c (.d false (.l (a1.map cd))))),(5,tI q)],[],0⟩) ?_
 rintro v1 o H
 try dsimp only
 refine wI ?_
 refine cC H ?_ ?_<;>intro H
 .refine dI ?_
  refine aa H λx2 hx2 H=>dA (xdT (enc:=cd) hx2) ?_
  refine aa H λx3 hx3 H=>dA (xdT (enc:=cd) hx3) ?_
  refine aa H λr4 q4 H=>dA (ca (hF:=s7 q4)) ?_
  refine wI ?_
  refine cC H ?_ ?_<;>intro H
  .obtain⟨r0,Hd,rfl⟩:=dnE H
   refine f6 (λhq=>?_)
   have H:=Hd.trans (congrArg some hq)
   refine wI ?_
   exact ao H
  cases H
  refine dy ?_
  exact wo
 obtain⟨r0,Hd,rfl⟩:=dnE H
 refine dF (λhq=>?_)
 have H:=Hd.trans (congrArg some hq)
 refine wI ?_
 exact ao H
def oU (a0:ab) (a1:Int):Option Bool:=
 YL (yK (a0.bi.length:Int) (a0.aj.length:Int)) λr1=>YL (cO a1 0 (WR (r1-1))) λr2=>some r2
theorem yl {a0:ab} {a1:Int} {r:Bool} (H:oU a0 a1=some r):Fn prog 77 [.agg (eD a0),aI a1] [.c (.d (.b r))]:=by
 refine fI func77 ntmps77 ?_
 refine aa H λr1 q1 H=>nA (ca (hF:=wu q1)) ?_
 refine aa H λr2 q2 H=>nA (ca (hF:=bT q2)) ?_
 exact ao H
end Go.AM
