/- A part. -/
import Derived.Test.YtbfpkbncbebapaaGreatI0
set_option linter.unusedVariables false
open Option renaming bind->aaC
namespace Go.AM
open Go.Proofs
open Tryz
attribute [local irreducible] AWN NS AWO AWR AWC DR dO ip
set_option maxRecDepth 100000
set_option maxHeartbeats 40000000
def jw (a0:cd):Option Bool:=
 aaC (bE a0.hP 1 6) λr1=>aaC (bif r1 then(bif leB 0 a0.hP then(aaC (bE a0.f7 0 (WR ((mW .i64 1 a0.hP)-1))) λr3=>some r3) else none) else(some false)) λ(v2:Bool)=>some v2
theorem DQ {a0:cd} {r:Bool} (H:jw a0=some r):Fn prog 56 [.agg (HF a0)] [.c (.d (.b r))]:=by
 refine fI func56 ntmps56 ?_
 refine dI ?_
 refine aa H λr1 q1 H=>dA (ca (hF:=bA q1)) ?_
 refine aa H λv2 Hj H=>jt ⟨[(2,tB v2)],[],0⟩ ?_ ?_
 .have H:=Hj
  refine wI ?_
  refine dC H ?_ ?_<;>intro H
  .obtain⟨h,H⟩:=rq H
   refine dG (XE h rfl rfl rfl rfl) ?_
   refine aa H λr3 q3 H=>dG (ca (hF:=bA q3)) ?_
   refine wI ?_
   exact ai H
  refine wI ?_
  exact ai H
 refine wI ?_
 exact ao H
def jF (a0:aU) (a1:Int):Option Bool:=
 aaC (bE a1 0 (WR ((a0.aZ.length:Int)-1))) λr1=>some r1
theorem lD {a0:aU} {a1:Int} {r:Bool} (H:jF a0 a1=some r):Fn prog 65 [.agg (lq a0),aI a1] [.c (.d (.b r))]:=by
 refine fI func65 ntmps65 ?_
 refine aa H λr1 q1 H=>nA (ca (hF:=bA q1)) ?_
 exact ao H
def jv (a0:av):Int->Option (cK (Int) (Bool))
 |v5=>bif ltB v5 (a0.ay.length:Int) then(aaC (ix a0.ay v5) λx6=>aaC (bif ltB x6.aC 0 then(some true) else(aaC (bE x6.ei 1 100000) λr8=>some (!r8))) λ(v7:Bool)=>bif v7 then(dn (some false)) else(aaC (bif ltB 0 v5 then(aaC (ix a0.ay (WR (v5-1))) λx10=>some (leB x6.aC x10.aC)) else(some false)) λ(v9:Bool)=>bif v9 then(dn (some false)) else(some (.next (WR (v5+1)))))) else(dn (aaC (nH a0) λr11=>some (eqB (WR ((WR (a0.bK+a0.dW))+r11)) a0.iz)))
def gO (a0:av):Option Bool:=
 aaC (bE a0.iz 0 100000) λr1=>aaC (bif !r1 then(some true) else(aaC (bE a0.bK 0 a0.iz) λr3=>bif !r3 then(some true) else(aaC (bE a0.dW 0 a0.iz) λr4=>some (!r4)))) λ(v2:Bool)=>bif v2 then(some false) else(bif ltB 8 (a0.ay.length:Int) then(some false) else(iter (jv a0) FU 0))
theorem kx {a0:av} {r:Bool} (H:gO a0=some r):Fn prog 34 [.agg (dB a0)] [.c (.d (.b r))]:=by
 refine fI func34 ntmps34 ?_
 refine aa H λr1 q1 H=>nA (ca (hF:=bA q1)) ?_
 refine aa H λv2 Hj H=>jR ⟨[(1,tP 0),(24,tB v2)],[(0,.var 89 (kM [.f] (cT a0)))],1⟩ ?_ ?_
 .refine gC Hj ?_ ?_<;>intro H
  .exact ai H
  refine aa H λr3 q3 H=>nG (ca (hF:=bA q3)) ?_
  refine gC H ?_ ?_<;>intro H
  .exact ai H
  refine aa H λr4 q4 H=>nG (ca (hF:=bA q4)) ?_
  exact ai H
 refine cC H ?_ ?_<;>intro H
 .exact ao H
 refine cC H ?_ ?_<;>intro H
 .exact ao H
 refine iT H (λq=>⟨[(1,tP 0),(30,.v (.c (.d false (.l (a0.ay.map bQ))))),(31,tI (a0.ay.length:Int)),(32,tI q)],[(0,.var 89 (kM [.f] (cT a0)))],1⟩) ?_
 rintro v5 o H
 try dsimp only
 refine wI ?_
 refine cC H ?_ ?_<;>intro H
 .refine aa H λx6 hx6 H=>nA (xdT (enc:=bQ) hx6) ?_
  refine aa H λv7 Hj H=>jR ⟨[(1,tP 0),(3,tI v5),(4,tP 1),(30,.v (.c (.d false (.l (a0.ay.map bQ))))),(31,tI (a0.ay.length:Int)),(32,tI v5),(45,tB v7)],[(0,.var 89 (kM [.f] (cT a0))),(1,.var 132 (kM [] (Fc x6)))],2⟩ ?_ ?_
  .refine gC Hj ?_ ?_<;>intro H
   .exact ai H
   refine aa H λr8 q8 H=>nG (ca (hF:=bA q8)) ?_
   exact ai H
  refine cC H ?_ ?_<;>intro H
  .obtain⟨r0,Hd,rfl⟩:=dnE H
   refine mR (λhq=>?_)
   have H:=Hd.trans (congrArg some hq)
   refine wI ?_
   exact ao H
  refine dI ?_
  refine aa H λv9 Hj H=>jt ⟨[(1,tP 0),(30,.v (.c (.d false (.l (a0.ay.map bQ))))),(31,tI (a0.ay.length:Int)),(32,tI v5),(59,tB v9)],[(0,.var 89 (kM [.f] (cT a0)))],1⟩ ?_ ?_
  .have H:=Hj
   refine wI ?_
   refine dC H ?_ ?_<;>intro H
   .refine aa H λx10 hx10 H=>dG (xdT (enc:=bQ) hx10) ?_
    refine wI ?_
    exact ai H
   refine wI ?_
   exact ai H
  refine wI ?_
  refine cC H ?_ ?_<;>intro H
  .refine wI ?_
   obtain⟨r0,Hd,rfl⟩:=dnE H
   refine mR (λhq=>?_)
   have H:=Hd.trans (congrArg some hq)
   refine wI ?_
   exact ao H
  refine wI ?_
  cases H
  refine eA ?_
  exact wo
 obtain⟨r0,Hd,rfl⟩:=dnE H
 refine et (λhq=>?_)
 have H:=Hd.trans (congrArg some hq)
 refine wI ?_
 refine dI ?_
 refine aa H λr11 q11 H=>dA (ca (hF:=Bd q11)) ?_
 refine wI ?_
 exact ao H
def nD (a0:av) (a1:Int):Option Int:=
 aaC (fO a0 a1) λr1=>bif ltB r1 0 then(some 0) else(aaC (ix a0.ay r1) λx2=>some x2.ei)
theorem wD {a0:av} {a1:Int} {r:Int} (H:nD a0 a1=some r):Fn prog 36 [.agg (dB a0),aI a1] [.c (.d (.i .i64 r))]:=by
 refine fI func36 ntmps36 ?_
 refine aa H λr1 q1 H=>nA (ca (hF:=lJ q1)) ?_
 refine cC H ?_ ?_<;>intro H
 .exact ao H
 refine aa H λx2 hx2 H=>nA (xdT (enc:=bQ) hx2) ?_
 exact ao H
def gA (a0:Int):Option Bool:=
 aaC (bE a0 1 2147483646) λr1=>some r1
theorem gX {a0:Int} {r:Bool} (H:gA a0=some r):Fn prog 192 [aI a0] [.c (.d (.b r))]:=by
 refine fI func192 ntmps192 ?_
 refine aa H λr1 q1 H=>nA (ca (hF:=bA q1)) ?_
 exact ao H
def gB (a0:du):Option Bool:=
 aaC (bE a0.d8 0 3) λr1=>aaC (bif r1 then(aaC (bE a0.bI 0 99) λr3=>some r3) else(some false)) λ(v2:Bool)=>some v2
theorem nk {a0:du} {r:Bool} (H:gB a0=some r):Fn prog 261 [.agg (qZ a0)] [.c (.d (.b r))]:=by
 refine fI func261 ntmps261 ?_
 refine aa H λr1 q1 H=>nA (ca (hF:=bA q1)) ?_
 refine aa H λv2 Hj H=>jR ⟨[(2,tB v2)],[],0⟩ ?_ ?_
 .refine gC Hj ?_ ?_<;>intro H
  .refine aa H λr3 q3 H=>nG (ca (hF:=bA q3)) ?_
   exact ai H
  exact ai H
 exact ao H
def ja (a0:aX):Int->Option (cK (Int) (Bool))
 |v3=>bif ltB v3 (a0.aO.length:Int) then(aaC (ix a0.aO v3) λx4=>aaC (bif ltB 60 (x4.a8.length:Int) then(some true) else(aaC (bE x4.cQ (WR (a0.bb+1)) (WR ((WR (a0.bb+8))-1))) λr6=>some (!r6))) λ(v5:Bool)=>bif v5 then(dn (some false)) else(aaC (bif ltB 0 v3 then(aaC (ix a0.aO (WR (v3-1))) λx8=>some (leB x4.cQ x8.cQ)) else(some false)) λ(v7:Bool)=>bif v7 then(dn (some false)) else(some (.next (WR (v3+1)))))) else(dn (some true))
def jg (a0:aX):Option Bool:=
 aaC (bif !eqB a0.bb (WR ((a0.bj.length:Int)+1)) then(some true) else(bif ltB 24 (a0.bj.length:Int) then(some true) else(aaC (sM a0.bj) λr2=>bif !r2 then(some true) else(some (ltB 8 (a0.aO.length:Int)))))) λ(v1:Bool)=>bif v1 then(some false) else(iter (ja a0) FU 0)
theorem rm {a0:aX} {r:Bool} (H:jg a0=some r):Fn prog 193 [.agg (jM a0)] [.c (.d (.b r))]:=by
 refine fI func193 ntmps193 ?_
 refine aa H λv1 Hj H=>jR ⟨[(1,tP 0),(29,tB v1)],[(0,.var 82 (kM [.f,.f] (cH a0)))],1⟩ ?_ ?_
 .refine gC Hj ?_ ?_<;>intro H
  .exact ai H
  refine gC H ?_ ?_<;>intro H
  .exact ai H
  refine aa H λr2 q2 H=>nG (ca (hF:=yd q2)) ?_
  refine gC H ?_ ?_<;>intro H
  .exact ai H
  exact ai H
 refine cC H ?_ ?_<;>intro H
 .exact ao H
 refine iT H (λq=>⟨[(1,tP 0),(31,.v (.c (.d false (.l (a0.aO.map aN))))),(32,tI (a0.aO.length:Int)),(33,tI q)],[(0,.var 82 (kM [.f,.f] (cH a0)))],1⟩) ?_
 rintro v3 o H
 try dsimp only
 refine wI ?_
 refine cC H ?_ ?_<;>intro H
 .refine aa H λx4 hx4 H=>nA (xdT (enc:=aN) hx4) ?_
  refine aa H λv5 Hj H=>jR ⟨[(1,tP 0),(3,tI v3),(4,tP 1),(31,.v (.c (.d false (.l (a0.aO.map aN))))),(32,tI (a0.aO.length:Int)),(33,tI v3),(54,tB v5)],[(0,.var 82 (kM [.f,.f] (cH a0))),(1,.var 144 (kM [.f] (ed x4)))],2⟩ ?_ ?_
  .refine gC Hj ?_ ?_<;>intro H
   .exact ai H
   refine aa H λr6 q6 H=>nG (ca (hF:=bA q6)) ?_
   exact ai H
  refine cC H ?_ ?_<;>intro H
  .obtain⟨r0,Hd,rfl⟩:=dnE H
   refine mR (λhq=>?_)
   have H:=Hd.trans (congrArg some hq)
   refine wI ?_
   exact ao H
  refine dI ?_
  refine aa H λv7 Hj H=>jt ⟨[(1,tP 0),(31,.v (.c (.d false (.l (a0.aO.map aN))))),(32,tI (a0.aO.length:Int)),(33,tI v3),(68,tB v7)],[(0,.var 82 (kM [.f,.f] (cH a0)))],1⟩ ?_ ?_
  .have H:=Hj
   refine wI ?_
   refine dC H ?_ ?_<;>intro H
   .refine aa H λx8 hx8 H=>dG (xdT (enc:=aN) hx8) ?_
    refine wI ?_
    exact ai H
   refine wI ?_
   exact ai H
  refine wI ?_
  refine cC H ?_ ?_<;>intro H
  .refine wI ?_
   obtain⟨r0,Hd,rfl⟩:=dnE H
   refine mR (λhq=>?_)
   have H:=Hd.trans (congrArg some hq)
   refine wI ?_
   exact ao H
  refine wI ?_
  cases H
  refine eA ?_
  exact wo
 obtain⟨r0,Hd,rfl⟩:=dnE H
 refine et (λhq=>?_)
 have H:=Hd.trans (congrArg some hq)
 refine wI ?_
 exact ao H
def jO (a0:dh):Option Int:=
 aaC (iV a0) λr1=>bif !r1 then(some 0) else(some (WR (a0.cB-a0.d4)))
theorem sF {a0:dh} {r:Int} (H:jO a0=some r):Fn prog 93 [.agg (sj a0)] [.c (.d (.i .i64 r))]:=by
 refine fI func93 ntmps93 ?_
 refine aa H λr1 q1 H=>nA (ca (hF:=mn q1)) ?_
 refine cC H ?_ ?_<;>intro H
 .exact ao H
 exact ao H
def gJ (a0:bz):Int->Option (cK (Int) (Bool))
 |v5=>bif ltB v5 (a0.bv.length:Int) then(aaC (ix a0.bv v5) λx6=>aaC (bE x6 0 3) λr7=>bif !r7 then(dn (some false)) else(some (.next (WR (v5+1))))) else(dn (aaC (nK a0.bv) λr8=>some r8))
def iI (a0:bz):Option Bool:=
 aaC (bE a0.jf 1 1000) λr1=>aaC (bif !r1 then(some true) else(aaC (bE a0.jc 1 4) λr3=>bif !r3 then(some true) else(aaC (bE a0.dQ 1 100000) λr4=>some (!r4)))) λ(v2:Bool)=>bif v2 then(some false) else(iter (gJ a0) FU 0)
theorem uS {a0:bz} {r:Bool} (H:iI a0=some r):Fn prog 195 [.agg (kL a0)] [.c (.d (.b r))]:=by
 refine fI func195 ntmps195 ?_
 refine aa H λr1 q1 H=>nA (ca (hF:=bA q1)) ?_
 refine aa H λv2 Hj H=>jR ⟨[(1,tP 0),(20,tB v2)],[(0,.var 59 (kM [.f] (dw a0)))],1⟩ ?_ ?_
 .refine gC Hj ?_ ?_<;>intro H
  .exact ai H
  refine aa H λr3 q3 H=>nG (ca (hF:=bA q3)) ?_
  refine gC H ?_ ?_<;>intro H
  .exact ai H
  refine aa H λr4 q4 H=>nG (ca (hF:=bA q4)) ?_
  exact ai H
 refine cC H ?_ ?_<;>intro H
 .exact ao H
 refine iT H (λq=>⟨[(1,tP 0),(22,.v (.c (.d false (.l (a0.bv.map eI))))),(23,tI (a0.bv.length:Int)),(24,tI q)],[(0,.var 59 (kM [.f] (dw a0)))],1⟩) ?_
 rintro v5 o H
 try dsimp only
 refine wI ?_
 refine cC H ?_ ?_<;>intro H
 .refine aa H λx6 hx6 H=>nA (xdT (enc:=eI) hx6) ?_
  refine aa H λr7 q7 H=>nA (ca (hF:=bA q7)) ?_
  refine cC H ?_ ?_<;>intro H
  .obtain⟨r0,Hd,rfl⟩:=dnE H
   refine mR (λhq=>?_)
   have H:=Hd.trans (congrArg some hq)
   refine wI ?_
   exact ao H
  cases H
  refine eA ?_
  exact wo
 obtain⟨r0,Hd,rfl⟩:=dnE H
 refine et (λhq=>?_)
 have H:=Hd.trans (congrArg some hq)
 refine wI ?_
 refine aa H λr8 q8 H=>nA (ca (hF:=wL q8)) ?_
 exact ao H
def ni (a0:cL):Option Bool:=
 aaC (bE a0.fJ 0 2) λr1=>aaC (bif r1 then(aaC (bE a0.dt 0 4) λr3=>bif r3 then(aaC (bE a0.di 0 3) λr4=>some r4) else(some false)) else(some false)) λ(v2:Bool)=>some v2
theorem A8 {a0:cL} {r:Bool} (H:ni a0=some r):Fn prog 196 [.agg (xY a0)] [.c (.d (.b r))]:=by
 refine fI func196 ntmps196 ?_
 refine aa H λr1 q1 H=>nA (ca (hF:=bA q1)) ?_
 refine aa H λv2 Hj H=>jR ⟨[(2,tB v2)],[],0⟩ ?_ ?_
 .refine gC Hj ?_ ?_<;>intro H
  .refine aa H λr3 q3 H=>nG (ca (hF:=bA q3)) ?_
   refine gC H ?_ ?_<;>intro H
   .refine aa H λr4 q4 H=>nG (ca (hF:=bA q4)) ?_
    exact ai H
   exact ai H
  exact ai H
 exact ao H
def ky (a0:bh):Int->Option (cK (Int) (Bool))
 |v3=>bif ltB v3 (a0.aD.length:Int) then(aaC (ix a0.aD v3) λx4=>aaC (bif !eqB x4.cQ (WR ((WR (a0.bb-(a0.aD.length:Int)))+v3)) then(some true) else(some (ltB 60 (x4.a8.length:Int)))) λ(v5:Bool)=>bif v5 then(dn (some false)) else(some (.next (WR (v3+1))))) else(dn (some true))
def kO (a0:bh):Option Bool:=
 aaC (bE a0.bb 1 100000) λr1=>aaC (bif !r1 then(some true) else(some (ltB 8 (a0.aD.length:Int)))) λ(v2:Bool)=>bif v2 then(some false) else(bif ltB (WR (a0.bb-(a0.aD.length:Int))) 1 then(some false) else(iter (ky a0) FU 0))
theorem ol {a0:bh} {r:Bool} (H:kO a0=some r):Fn prog 197 [.agg (lu a0)] [.c (.d (.b r))]:=by
 refine fI func197 ntmps197 ?_
 refine aa H λr1 q1 H=>nA (ca (hF:=bA q1)) ?_
 refine aa H λv2 Hj H=>jR ⟨[(1,tP 0),(15,tB v2)],[(0,.var 65 (kM [.f] (fm a0)))],1⟩ ?_ ?_
 .refine gC Hj ?_ ?_<;>intro H
  .exact ai H
  exact ai H
 refine cC H ?_ ?_<;>intro H
 .exact ao H
 refine cC H ?_ ?_<;>intro H
 .exact ao H
 refine iT H (λq=>⟨[(3,tI (WR (a0.bb-(a0.aD.length:Int)))),(25,.v (.c (.d false (.l (a0.aD.map aN))))),(26,tI (a0.aD.length:Int)),(27,tI q)],[],0⟩) ?_
 rintro v3 o H
 try dsimp only
 refine wI ?_
 refine cC H ?_ ?_<;>intro H
 .refine aa H λx4 hx4 H=>nA (xdT (enc:=aN) hx4) ?_
  refine aa H λv5 Hj H=>jR ⟨[(3,tI (WR (a0.bb-(a0.aD.length:Int)))),(25,.v (.c (.d false (.l (a0.aD.map aN))))),(26,tI (a0.aD.length:Int)),(27,tI v3),(43,tB v5)],[],0⟩ ?_ ?_
  .refine gC Hj ?_ ?_<;>intro H
   .exact ai H
   exact ai H
  refine cC H ?_ ?_<;>intro H
  .obtain⟨r0,Hd,rfl⟩:=dnE H
   refine mR (λhq=>?_)
   have H:=Hd.trans (congrArg some hq)
   refine wI ?_
   exact ao H
  cases H
  refine eA ?_
  exact wo
 obtain⟨r0,Hd,rfl⟩:=dnE H
 refine et (λhq=>?_)
 have H:=Hd.trans (congrArg some hq)
 refine wI ?_
 exact ao H
def iJ (a0:ae):Option Int:=
 aaC (nL a0.aq.aD) λr1=>some r1
theorem qi {a0:ae} {r:Int} (H:iJ a0=some r):Fn prog 200 [.agg (cG a0)] [.c (.d (.i .i64 r))]:=by
 refine fI func200 ntmps200 ?_
 refine aa H λr1 q1 H=>nA (ca (hF:=Be q1)) ?_
 exact ao H
def kC (a0:bz):Option bz:=
 aaC (qI a0.bv) λr1=>some {a0 with bv:=r1}
theorem xQ {a0:bz} {r:bz} (H:kC a0=some r):Fn prog 122 [.agg (kL a0)] [.agg (qM [.o] (dw r))]:=by
 refine fI func122 ntmps122 ?_
 refine aa H λr1 q1 H=>nA (ca (hF:=BJ q1)) ?_
 exact ao H
def ot (a0:List bm):(Int×List bm)->Option (cK (Int×List bm) (List bm))
 |(v1,v2)=>bif ltB v1 (a0.length:Int) then(aaC (ix a0 v1) λx7=>aaC (eK x7.a8) λr8=>aaC (ix v2 v1) λx9=>some (.next (WR (v1+1),(v2.set (v1).toNat (⟨r8⟩:bm))))) else(some (.done v2))
def lX (a0:List bm):Option (List bm):=
 bif pD 24 (a0.length:Int) (a0.length:Int) then(aaC (iter (ot a0) FU (0,(List.replicate ((a0.length:Int)).toNat (⟨[]⟩:bm)))) λ(v6:List bm)=>some v6) else none
theorem vH {a0:List bm} {r:List bm} (H:lX a0=some r):Fn prog 123 [aL (a0.map cg)] [.c (.own 125 1 (r.map cg) r.length)]:=by
 refine fI func123 ntmps123 ?_
 obtain⟨h,H⟩:=rq H
 refine nA (mkT (enc:=cg) (za:=(⟨[]⟩:bm)) h (by rfl)) ?_
 refine aa H λv6 Hj H=>jB ⟨[(3,.v (.c (.w 0 v6.length)))],[(0,UF v6)],1⟩ ?_ ?_
 .refine iT Hj (λq=>⟨[(3,.v (.c (.w 0 q.2.length))),(9,.v (.c (.d false (.l (a0.map cg))))),(10,tI (a0.length:Int)),(11,tI q.1)],[(0,UF q.2)],1⟩) ?_
  rintro⟨v1,v2⟩ o H
  try dsimp only
  refine wI ?_
  refine cC H ?_ ?_<;>intro H
  .refine aa H λx7 hx7 H=>nA (xdT (enc:=cg) hx7) ?_
   refine aa H λr8 q8 H=>nA (ca (hF:=gq q8)) ?_
   refine aa H λx9 hx9 H=>nA (xwT hx9) ?_
   refine bN (bw (o:=2)) ?_
   refine bN (bJ (k:=21)) ?_
   refine sA (soT (enc:=cg) (a':=(⟨r8⟩:bm)) hx9) ?_
   cases H
   refine eA ?_
   exact wo
  cases H
  refine et (λhq=>?_)
  cases hq
  refine wI ?_
  exact wo
 exact ao H
def oo (a0:List an):(Int×List an)->Option (cK (Int×List an) (List an))
 |(v1,v2)=>bif ltB v1 (a0.length:Int) then(aaC (ix a0 v1) λx7=>aaC (eK x7.a8) λr8=>aaC (ix v2 v1) λx9=>some (.next (WR (v1+1),(v2.set (v1).toNat (⟨x7.cQ,r8⟩:an))))) else(some (.done v2))
def jY (a0:List an):Option (List an):=
 bif pD 32 (a0.length:Int) (a0.length:Int) then(aaC (iter (oo a0) FU (0,(List.replicate ((a0.length:Int)).toNat bG))) λ(v6:List an)=>some v6) else none
theorem pX {a0:List an} {r:List an} (H:jY a0=some r):Fn prog 188 [aL (a0.map aN)] [.c (.own 144 2 (r.map aN) r.length)]:=by
 refine fI func188 ntmps188 ?_
 obtain⟨h,H⟩:=rq H
 refine nA (mkT (enc:=aN) (za:=bG) h (by rfl)) ?_
 refine aa H λv6 Hj H=>jB ⟨[(3,.v (.c (.w 0 v6.length)))],[(0,Lr v6)],1⟩ ?_ ?_
 .refine iT Hj (λq=>⟨[(3,.v (.c (.w 0 q.2.length))),(9,.v (.c (.d false (.l (a0.map aN))))),(10,tI (a0.length:Int)),(11,tI q.1)],[(0,Lr q.2)],1⟩) ?_
  rintro⟨v1,v2⟩ o H
  try dsimp only
  refine wI ?_
  refine cC H ?_ ?_<;>intro H
  .refine aa H λx7 hx7 H=>nA (xdT (enc:=aN) hx7) ?_
   refine zI (List.range 10) ?_
   refine aa H λr8 q8 H=>zA (ca (hF:=gq q8)) ?_
   refine aa H λx9 hx9 H=>zA (xwT hx9) ?_
   refine zB (aH (bw (o:=2)) (bJ (k:=23))) (jp rfl (soT (enc:=aN) (a':=(⟨x7.cQ,r8⟩:an)) hx9)) b7 ?_
   cases H
   refine eA ?_
   exact wo
  cases H
  refine et (λhq=>?_)
  cases hq
  refine wI ?_
  exact wo
 exact ao H
def eN (a0:av):Option av:=
 aaC (fH a0.ay) λr1=>some {a0 with ay:=r1}
theorem fj {a0:av} {r:av} (H:eN a0=some r):Fn prog 84 [.agg (dB a0)] [.agg (qM [.o] (cT r))]:=by
 refine fI func84 ntmps84 ?_
 refine aa H λr1 q1 H=>nA (ca (hF:=pw q1)) ?_
 exact ao H
def wG (a0:aU):(Int×List eY)->Option (cK (Int×List eY) (List eY))
 |(v1,v2)=>bif ltB v1 (a0.aZ.length:Int) then(aaC (ix a0.aZ v1) λx7=>aaC (qI x7.b8) λr8=>aaC (ix v2 v1) λx9=>some (.next (WR (v1+1),(v2.set (v1).toNat (⟨x7.fJ,r8⟩:eY))))) else(some (.done v2))
def zQ (a0:aU):Option aU:=
 bif pD 32 (a0.aZ.length:Int) (a0.aZ.length:Int) then(aaC (iter (wG a0) FU (0,(List.replicate ((a0.aZ.length:Int)).toNat Ng))) λ(v6:List eY)=>some (⟨v6⟩:aU)) else none
theorem Mj {a0:aU} {r:aU} (H:zQ a0=some r):Fn prog 106 [.agg (lq a0)] [.agg [.own 158 2 (r.aZ.map dL) r.aZ.length]]:=by
 refine fI func106 ntmps106 ?_
 obtain⟨h,H⟩:=rq H
 refine nA (mkT (enc:=dL) (za:=Ng) h (by rfl)) ?_
 refine aa H λv6 Hj H=>jB ⟨[(2,tP 1),(3,.v (.c (.w 2 v6.length)))],[(1,.var 26 [.nil]),(2,w158 v6)],3⟩ ?_ ?_
 .refine iT Hj (λq=>⟨[(2,tP 1),(3,.v (.c (.w 2 q.2.length))),(11,.v (.c (.d false (.l (a0.aZ.map dL))))),(12,tI (a0.aZ.length:Int)),(13,tI q.1)],[(1,.var 26 [.nil]),(2,w158 q.2)],3⟩) ?_
  rintro⟨v1,v2⟩ o H
  try dsimp only
  refine wI ?_
  refine cC H ?_ ?_<;>intro H
  .refine aa H λx7 hx7 H=>nA (xdT (enc:=dL) hx7) ?_
   refine zI (List.range 10) ?_
   refine aa H λr8 q8 H=>zA (ca (hF:=BJ q8)) ?_
   refine aa H λx9 hx9 H=>zA (xwT hx9) ?_
   refine zB (aH (bw (o:=4)) (bJ (k:=25))) (jp rfl (soT (enc:=dL) (a':=(⟨x7.fJ,r8⟩:eY)) hx9)) b7 ?_
   cases H
   refine eA ?_
   exact wo
  cases H
  refine et (λhq=>?_)
  cases hq
  refine wI ?_
  exact wo
 exact ao H
end Go.AM
