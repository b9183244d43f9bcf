/- A part. -/
import Derived.Test.YtbfpkbncbebapaaGreatG
set_option linter.unusedVariables false
open Option renaming bind->YL
open List renaming replicate->Xa
namespace Go.AM
open Go.Proofs
open Tryz
attribute [local irreducible] AWN NS AWO AWR AWC DR dQ gQ
set_option maxRecDepth 100000
set_option maxHeartbeats 40000000
def ct (a0:Int) (a1:Int) (a2:Int):Option Bool:=
 YL (bif leB a1 a0 then(some (leB a0 a2)) else(some false)) λ(v1:Bool)=>some v1
theorem bZ {a0:Int} {a1:Int} {a2:Int} {r:Bool} (H:ct a0 a1 a2=some r):Fn prog 57 [aI a0,aI a1,aI a2] [.c (.d (.b r))]:=by
 refine fI func57 ntmps57 ?_
 refine aa H λv1 Hj H=>jR ⟨[(6,tB v1)],[],0⟩ ?_ ?_
 .refine gC Hj ?_ ?_<;>intro H
  .exact ai H
  exact ai H
 exact ao H
def jb (a0:a8):Option Bool:=
 YL (ct a0.dP 1 6) λr1=>YL (bif r1 then(bif leB 0 a0.dP then(YL (ct a0.dm 0 (WR ((jY .i64 1 a0.dP)-1))) λr3=>some r3) else none) else(some false)) λ(v2:Bool)=>some v2
theorem mq {a0:a8} {r:Bool} (H:jb a0=some r):Fn prog 56 [.agg (ic a0)] [.c (.d (.b r))]:=by
 refine fI func56 ntmps56 ?_
 refine dI ?_
 refine aa H λr1 q1 H=>dA (ca (hF:=bZ q1)) ?_
 refine aa H λv2 Hj H=>et ⟨[(2,tB v2)],[],0⟩ ?_ ?_
 .have H:=Hj
  refine wI ?_
  refine dC H ?_ ?_<;>intro H
  .obtain⟨h,H⟩:=rq H
   refine dG (B8 h rfl rfl rfl rfl) ?_
   refine aa H λr3 q3 H=>dG (ca (hF:=bZ q3)) ?_
   refine wI ?_
   exact ai H
  refine wI ?_
  exact ai H
 refine wI ?_
 exact ao H
def rG (a0:aM) (a1:Int):Option Bool:=
 YL (ct a1 0 (WR ((a0.aR.length:Int)-1))) λr1=>some r1
theorem tu {a0:aM} {a1:Int} {r:Bool} (H:rG a0 a1=some r):Fn prog 65 [.agg (gI a0),aI a1] [.c (.d (.b r))]:=by
 refine fI func65 ntmps65 ?_
 refine aa H λr1 q1 H=>nA (ca (hF:=bZ q1)) ?_
 exact ao H
def jn (a0:List Int):Int->Option (cf (Int) (Bool))
 |v1=>bif ltB v1 (a0.length:Int) then(YL (ix a0 (WR (v1-1))) λx2=>YL (ix a0 v1) λx3=>bif leB x3 x2 then(dn (some false)) else(some (.next (WR (v1+1))))) else(dn (some true))
def mE (a0:List Int):Option Bool:=
 iter (jn a0) FU 1
theorem vP {a0:List Int} {r:Bool} (H:mE a0=some r):Fn prog 126 [aL (a0.map eI)] [.c (.d (.b r))]:=by
 refine fI func126 ntmps126 ?_
 refine iT H (λq=>⟨[(0,.v (.c (.d false (.l (a0.map eI))))),(3,tI q)],[],0⟩) ?_
 rintro v1 o H
 try dsimp only
 refine wI ?_
 refine cC H ?_ ?_<;>intro H
 .refine dI ?_
  refine aa H λx2 hx2 H=>dA (xdT (enc:=eI) hx2) ?_
  refine aa H λx3 hx3 H=>dA (xdT (enc:=eI) hx3) ?_
  refine wI ?_
  refine cC H ?_ ?_<;>intro H
  .obtain⟨r0,Hd,rfl⟩:=dnE H
   refine f6 (λhq=>?_)
   have H:=Hd.trans (congrArg some hq)
   refine wI ?_
   exact ao H
  cases H
  refine dy ?_
  exact wo
 obtain⟨r0,Hd,rfl⟩:=dnE H
 refine dF (λhq=>?_)
 have H:=Hd.trans (congrArg some hq)
 refine wI ?_
 exact ao H
def mz (a0:am):(Int×Int)->Option (cf (Int×Int) (Int))
 |(v1,v2)=>bif ltB v2 (a0.aq.length:Int) then(YL (ix a0.aq v2) λx5=>some (.next (WR (v1+x5.dV),WR (v2+1)))) else(some (.done v1))
def my (a0:am):Option Int:=
 YL (iter (mz a0) FU (0,0)) λ(v4:Int)=>some v4
theorem A0 {a0:am} {r:Int} (H:my a0=some r):Fn prog 87 [.agg (cp a0)] [.c (.d (.i .i64 r))]:=by
 refine fI func87 ntmps87 ?_
 refine aa H λv4 Hj H=>jB ⟨[(3,tI v4)],[],0⟩ ?_ ?_
 .refine iT Hj (λq=>⟨[(3,tI q.1),(7,.v (.c (.d false (.l (a0.aq.map aZ))))),(8,tI (a0.aq.length:Int)),(9,tI q.2)],[],0⟩) ?_
  rintro⟨v1,v2⟩ o H
  try dsimp only
  refine wI ?_
  refine cC H ?_ ?_<;>intro H
  .refine aa H λx5 hx5 H=>nA (xdT (enc:=aZ) hx5) ?_
   cases H
   refine dy ?_
   exact wo
  cases H
  refine dF (λhq=>?_)
  cases hq
  refine wI ?_
  exact wo
 exact ao H
def ja (a0:am):Int->Option (cf (Int) (Bool))
 |v5=>bif ltB v5 (a0.aq.length:Int) then(YL (ix a0.aq v5) λx6=>YL (bif ltB x6.ax 0 then(some true) else(YL (ct x6.dV 1 100000) λr8=>some (!r8))) λ(v7:Bool)=>bif v7 then(dn (some false)) else(YL (bif ltB 0 v5 then(YL (ix a0.aq (WR (v5-1))) λx10=>some (leB x6.ax x10.ax)) else(some false)) λ(v9:Bool)=>bif v9 then(dn (some false)) else(some (.next (WR (v5+1)))))) else(dn (YL (my a0) λr11=>some (eqB (WR ((WR (a0.bQ+a0.er))+r11)) a0.eJ)))
def jl (a0:am):Option Bool:=
 YL (ct a0.eJ 0 100000) λr1=>YL (bif !r1 then(some true) else(YL (ct a0.bQ 0 a0.eJ) λr3=>bif !r3 then(some true) else(YL (ct a0.er 0 a0.eJ) λr4=>some (!r4)))) λ(v2:Bool)=>bif v2 then(some false) else(bif ltB 8 (a0.aq.length:Int) then(some false) else(iter (ja a0) FU 0))
theorem ry {a0:am} {r:Bool} (H:jl a0=some r):Fn prog 34 [.agg (cp a0)] [.c (.d (.b r))]:=by
 refine fI func34 ntmps34 ?_
 refine aa H λr1 q1 H=>nA (ca (hF:=bZ q1)) ?_
 refine aa H λv2 Hj H=>jR ⟨[(1,tP 0),(24,tB v2)],[(0,.var 89 (kM [.f] (cG a0)))],1⟩ ?_ ?_
 .refine gC Hj ?_ ?_<;>intro H
  .exact ai H
  refine aa H λr3 q3 H=>nG (ca (hF:=bZ q3)) ?_
  refine gC H ?_ ?_<;>intro H
  .exact ai H
  refine aa H λr4 q4 H=>nG (ca (hF:=bZ q4)) ?_
  exact ai H
 refine cC H ?_ ?_<;>intro H
 .exact ao H
 refine cC H ?_ ?_<;>intro H
 .exact ao H
 refine iT H (λq=>⟨[(1,tP 0),(30,.v (.c (.d false (.l (a0.aq.map aZ))))),(31,tI (a0.aq.length:Int)),(32,tI q)],[(0,.var 89 (kM [.f] (cG a0)))],1⟩) ?_
 rintro v5 o H
 try dsimp only
 refine wI ?_
 refine cC H ?_ ?_<;>intro H
 .refine aa H λx6 hx6 H=>nA (xdT (enc:=aZ) hx6) ?_
  refine aa H λv7 Hj H=>jR ⟨[(1,tP 0),(3,tI v5),(4,tP 1),(30,.v (.c (.d false (.l (a0.aq.map aZ))))),(31,tI (a0.aq.length:Int)),(32,tI v5),(45,tB v7)],[(0,.var 89 (kM [.f] (cG a0))),(1,.var 132 (kM [] (EW x6)))],2⟩ ?_ ?_
  .refine gC Hj ?_ ?_<;>intro H
   .exact ai H
   refine aa H λr8 q8 H=>nG (ca (hF:=bZ q8)) ?_
   exact ai H
  refine cC H ?_ ?_<;>intro H
  .obtain⟨r0,Hd,rfl⟩:=dnE H
   refine f6 (λhq=>?_)
   have H:=Hd.trans (congrArg some hq)
   refine wI ?_
   exact ao H
  refine dI ?_
  refine aa H λv9 Hj H=>et ⟨[(1,tP 0),(30,.v (.c (.d false (.l (a0.aq.map aZ))))),(31,tI (a0.aq.length:Int)),(32,tI v5),(59,tB v9)],[(0,.var 89 (kM [.f] (cG a0)))],1⟩ ?_ ?_
  .have H:=Hj
   refine wI ?_
   refine dC H ?_ ?_<;>intro H
   .refine aa H λx10 hx10 H=>dG (xdT (enc:=aZ) hx10) ?_
    refine wI ?_
    exact ai H
   refine wI ?_
   exact ai H
  refine wI ?_
  refine cC H ?_ ?_<;>intro H
  .refine wI ?_
   obtain⟨r0,Hd,rfl⟩:=dnE H
   refine f6 (λhq=>?_)
   have H:=Hd.trans (congrArg some hq)
   refine wI ?_
   exact ao H
  refine wI ?_
  cases H
  refine dy ?_
  exact wo
 obtain⟨r0,Hd,rfl⟩:=dnE H
 refine dF (λhq=>?_)
 have H:=Hd.trans (congrArg some hq)
 refine wI ?_
 refine dI ?_
 refine aa H λr11 q11 H=>dA (ca (hF:=A0 q11)) ?_
 refine wI ?_
 exact ao H
def ik (a0:am) (a1:Int):Int->Option (cf (Int) (Int))
 |v1=>bif ltB v1 (a0.aq.length:Int) then(YL (ix a0.aq v1) λx2=>bif eqB x2.ax a1 then(dn (some v1)) else(some (.next (WR (v1+1))))) else(dn (some (-1)))
def mH (a0:am) (a1:Int):Option Int:=
 iter (ik a0 a1) FU 0
theorem xL {a0:am} {a1:Int} {r:Int} (H:mH a0 a1=some r):Fn prog 89 [.agg (cp a0),aI a1] [.c (.d (.i .i64 r))]:=by
 refine fI func89 ntmps89 ?_
 refine iT H (λq=>⟨[(1,tI a1),(8,.v (.c (.d false (.l (a0.aq.map aZ))))),(9,tI (a0.aq.length:Int)),(10,tI q)],[],0⟩) ?_
 rintro v1 o H
 try dsimp only
 refine wI ?_
 refine cC H ?_ ?_<;>intro H
 .refine aa H λx2 hx2 H=>nA (xdT (enc:=aZ) hx2) ?_
  refine cC H ?_ ?_<;>intro H
  .obtain⟨r0,Hd,rfl⟩:=dnE H
   refine f6 (λhq=>?_)
   have H:=Hd.trans (congrArg some hq)
   refine wI ?_
   exact ao H
  cases H
  refine dy ?_
  exact wo
 obtain⟨r0,Hd,rfl⟩:=dnE H
 refine dF (λhq=>?_)
 have H:=Hd.trans (congrArg some hq)
 refine wI ?_
 exact ao H
def pK (a0:am) (a1:Int):Option Int:=
 YL (mH a0 a1) λr1=>bif ltB r1 0 then(some 0) else(YL (ix a0.aq r1) λx2=>some x2.dV)
theorem Dr {a0:am} {a1:Int} {r:Int} (H:pK a0 a1=some r):Fn prog 36 [.agg (cp a0),aI a1] [.c (.d (.i .i64 r))]:=by
 refine fI func36 ntmps36 ?_
 refine aa H λr1 q1 H=>nA (ca (hF:=xL q1)) ?_
 refine cC H ?_ ?_<;>intro H
 .exact ao H
 refine aa H λx2 hx2 H=>nA (xdT (enc:=aZ) hx2) ?_
 exact ao H
def jC (a0:cT):Option Bool:=
 YL (bif leB 0 a0.ax then(bif leB 0 a0.ed then(bif leB a0.ed a0.cH then(some (leB a0.cH 100000)) else(some false)) else(some false)) else(some false)) λ(v1:Bool)=>some v1
theorem o6 {a0:cT} {r:Bool} (H:jC a0=some r):Fn prog 155 [.agg (pG a0)] [.c (.d (.b r))]:=by
 refine fI func155 ntmps155 ?_
 refine aa H λv1 Hj H=>jR ⟨[(2,tB v1)],[],0⟩ ?_ ?_
 .refine gC Hj ?_ ?_<;>intro H
  .refine gC H ?_ ?_<;>intro H
   .refine gC H ?_ ?_<;>intro H
    .exact ai H
    exact ai H
   exact ai H
  exact ai H
 exact ao H
def gA (a0:Int):Option Bool:=
 YL (ct a0 1 2147483646) λr1=>some r1
theorem iv {a0:Int} {r:Bool} (H:gA a0=some r):Fn prog 192 [aI a0] [.c (.d (.b r))]:=by
 refine fI func192 ntmps192 ?_
 refine aa H λr1 q1 H=>nA (ca (hF:=bZ q1)) ?_
 exact ao H
def fQ (a0:dx):Option Bool:=
 YL (ct a0.du 0 3) λr1=>YL (bif r1 then(YL (ct a0.bK 0 99) λr3=>some r3) else(some false)) λ(v2:Bool)=>some v2
theorem mt {a0:dx} {r:Bool} (H:fQ a0=some r):Fn prog 261 [.agg (qw a0)] [.c (.d (.b r))]:=by
 refine fI func261 ntmps261 ?_
 refine aa H λr1 q1 H=>nA (ca (hF:=bZ q1)) ?_
 refine aa H λv2 Hj H=>jR ⟨[(2,tB v2)],[],0⟩ ?_ ?_
 .refine gC Hj ?_ ?_<;>intro H
  .refine aa H λr3 q3 H=>nG (ca (hF:=bZ q3)) ?_
   exact ai H
  exact ai H
 exact ao H
def qA (a0:List bm):Int->Option (cf (Int) (Bool))
 |v1=>bif ltB v1 (a0.length:Int) then(YL (ix a0 v1) λx2=>bif ltB 60 (x2.aS.length:Int) then(dn (some false)) else(some (.next (WR (v1+1))))) else(dn (some true))
def rF (a0:List bm):Option Bool:=
 iter (qA a0) FU 0
theorem xY {a0:List bm} {r:Bool} (H:rF a0=some r):Fn prog 198 [aL (a0.map cd)] [.c (.d (.b r))]:=by
 refine fI func198 ntmps198 ?_
 refine iT H (λq=>⟨[(5,.v (.c (.d false (.l (a0.map cd))))),(6,tI (a0.length:Int)),(7,tI q)],[],0⟩) ?_
 rintro v1 o H
 try dsimp only
 refine wI ?_
 refine cC H ?_ ?_<;>intro H
 .refine aa H λx2 hx2 H=>nA (xdT (enc:=cd) hx2) ?_
  refine cC H ?_ ?_<;>intro H
  .obtain⟨r0,Hd,rfl⟩:=dnE H
   refine f6 (λhq=>?_)
   have H:=Hd.trans (congrArg some hq)
   refine wI ?_
   exact ao H
  cases H
  refine dy ?_
  exact wo
 obtain⟨r0,Hd,rfl⟩:=dnE H
 refine dF (λhq=>?_)
 have H:=Hd.trans (congrArg some hq)
 refine wI ?_
 exact ao H
def iD (a0:aK):Int->Option (cf (Int) (Bool))
 |v3=>bif ltB v3 (a0.aF.length:Int) then(YL (ix a0.aF v3) λx4=>YL (bif ltB 60 (x4.aS.length:Int) then(some true) else(YL (ct x4.cV (WR (a0.bz+1)) (WR ((WR (a0.bz+8))-1))) λr6=>some (!r6))) λ(v5:Bool)=>bif v5 then(dn (some false)) else(YL (bif ltB 0 v3 then(YL (ix a0.aF (WR (v3-1))) λx8=>some (leB x4.cV x8.cV)) else(some false)) λ(v7:Bool)=>bif v7 then(dn (some false)) else(some (.next (WR (v3+1)))))) else(dn (some true))
def kz (a0:aK):Option Bool:=
 YL (bif !eqB a0.bz (WR ((a0.aQ.length:Int)+1)) then(some true) else(bif ltB 24 (a0.aQ.length:Int) then(some true) else(YL (rF a0.aQ) λr2=>bif !r2 then(some true) else(some (ltB 8 (a0.aF.length:Int)))))) λ(v1:Bool)=>bif v1 then(some false) else(iter (iD a0) FU 0)
theorem yA {a0:aK} {r:Bool} (H:kz a0=some r):Fn prog 193 [.agg (gj a0)] [.c (.d (.b r))]:=by
 refine fI func193 ntmps193 ?_
 refine aa H λv1 Hj H=>jR ⟨[(1,tP 0),(29,tB v1)],[(0,.var 82 (kM [.f,.f] (b7 a0)))],1⟩ ?_ ?_
 .refine gC Hj ?_ ?_<;>intro H
  .exact ai H
  refine gC H ?_ ?_<;>intro H
  .exact ai H
  refine aa H λr2 q2 H=>nG (ca (hF:=xY q2)) ?_
  refine gC H ?_ ?_<;>intro H
  .exact ai H
  exact ai H
 refine cC H ?_ ?_<;>intro H
 .exact ao H
 refine iT H (λq=>⟨[(1,tP 0),(31,.v (.c (.d false (.l (a0.aF.map av))))),(32,tI (a0.aF.length:Int)),(33,tI q)],[(0,.var 82 (kM [.f,.f] (b7 a0)))],1⟩) ?_
 rintro v3 o H
 try dsimp only
 refine wI ?_
 refine cC H ?_ ?_<;>intro H
 .refine aa H λx4 hx4 H=>nA (xdT (enc:=av) hx4) ?_
  refine aa H λv5 Hj H=>jR ⟨[(1,tP 0),(3,tI v3),(4,tP 1),(31,.v (.c (.d false (.l (a0.aF.map av))))),(32,tI (a0.aF.length:Int)),(33,tI v3),(54,tB v5)],[(0,.var 82 (kM [.f,.f] (b7 a0))),(1,.var 144 (kM [.f] (eh x4)))],2⟩ ?_ ?_
  .refine gC Hj ?_ ?_<;>intro H
   .exact ai H
   refine aa H λr6 q6 H=>nG (ca (hF:=bZ q6)) ?_
   exact ai H
  refine cC H ?_ ?_<;>intro H
  .obtain⟨r0,Hd,rfl⟩:=dnE H
   refine f6 (λhq=>?_)
   have H:=Hd.trans (congrArg some hq)
   refine wI ?_
   exact ao H
  refine dI ?_
  refine aa H λv7 Hj H=>et ⟨[(1,tP 0),(31,.v (.c (.d false (.l (a0.aF.map av))))),(32,tI (a0.aF.length:Int)),(33,tI v3),(68,tB v7)],[(0,.var 82 (kM [.f,.f] (b7 a0)))],1⟩ ?_ ?_
  .have H:=Hj
   refine wI ?_
   refine dC H ?_ ?_<;>intro H
   .refine aa H λx8 hx8 H=>dG (xdT (enc:=av) hx8) ?_
    refine wI ?_
    exact ai H
   refine wI ?_
   exact ai H
  refine wI ?_
  refine cC H ?_ ?_<;>intro H
  .refine wI ?_
   obtain⟨r0,Hd,rfl⟩:=dnE H
   refine f6 (λhq=>?_)
   have H:=Hd.trans (congrArg some hq)
   refine wI ?_
   exact ao H
  refine wI ?_
  cases H
  refine dy ?_
  exact wo
 obtain⟨r0,Hd,rfl⟩:=dnE H
 refine dF (λhq=>?_)
 have H:=Hd.trans (congrArg some hq)
 refine wI ?_
 exact ao H
def vK (a0:List Int) (a1:List Int):Option Bool:=
 YL (zx a0 a1) λr1=>some r1
theorem EX {a0:List Int} {a1:List Int} {r:Bool} (H:vK a0 a1=some r):Fn prog 199 [aL (a0.map eU8),aL (a1.map eU8)] [.c (.d (.b r))]:=by
 refine fI func199 ntmps199 ?_
 refine aa H λr1 q1 H=>nA (ca (hF:=Dn q1)) ?_
 exact ao H
def mG (a0:List ae):(Int×Int)->Option (cf (Int×Int) (Int))
 |(v1,v2)=>bif ltB v2 (a0.length:Int) then(YL (ix a0 v2) λx5=>some (.next (WR (v1+(x5.aS.length:Int)),WR (v2+1)))) else(some (.done v1))
def mF (a0:List ae):Option Int:=
 YL (iter (mG a0) FU (0,0)) λ(v4:Int)=>some v4
theorem A2 {a0:List ae} {r:Int} (H:mF a0=some r):Fn prog 263 [aL (a0.map av)] [.c (.d (.i .i64 r))]:=by
 refine fI func263 ntmps263 ?_
 refine aa H λv4 Hj H=>jB ⟨[(3,tI v4)],[],0⟩ ?_ ?_
 .refine iT Hj (λq=>⟨[(3,tI q.1),(6,.v (.c (.d false (.l (a0.map av))))),(7,tI (a0.length:Int)),(8,tI q.2)],[],0⟩) ?_
  rintro⟨v1,v2⟩ o H
  try dsimp only
  refine wI ?_
  refine cC H ?_ ?_<;>intro H
  .refine aa H λx5 hx5 H=>nA (xdT (enc:=av) hx5) ?_
   cases H
   refine dy ?_
   exact wo
  cases H
  refine dF (λhq=>?_)
  cases hq
  refine wI ?_
  exact wo
 exact ao H
def qa (a0:List Int):Option (List Int):=
 bif zQ 8 (a0.length:Int) (a0.length:Int) then(some (cpL (Xa ((a0.length:Int)).toNat (0:Int)) a0)) else none
theorem BA {a0:List Int} {r:List Int} (H:qa a0=some r):Fn prog 176 [aL (a0.map eI)] [.c (.own 3 1 (r.map eI) r.length)]:=by
 refine fI func176 ntmps176 ?_
 obtain⟨h,H⟩:=rq H
 refine nA (mkT (enc:=eI) (za:=0) h (by rfl)) ?_
 refine eX rfl (cpT (enc:=eI) (ys:=(Xa ((a0.length:Int)).toNat (0:Int))) (zs:=a0) rfl (λ_=>rfl) (by first|rfl|simp) .d rfl rfl rfl rfl rfl) ?_
 refine aW (iX (enc:=eI) (o:=0)) ?_
 exact ao H
def ke (a0:List Int):Option (List Int):=
 bif zQ 1 (a0.length:Int) (a0.length:Int) then(some (cpL (Xa ((a0.length:Int)).toNat (0:Int)) a0)) else none
theorem ul {a0:List Int} {r:List Int} (H:ke a0=some r):Fn prog 187 [aL (a0.map eU8)] [.c (.own 5 1 (r.map eU8) r.length)]:=by
 refine fI func187 ntmps187 ?_
 obtain⟨h,H⟩:=rq H
 refine nA (mkT (enc:=eU8) (za:=0) h (by rfl)) ?_
 refine eX rfl (cpT (enc:=eU8) (ys:=(Xa ((a0.length:Int)).toNat (0:Int))) (zs:=a0) rfl (λ_=>rfl) (by first|rfl|simp) .d rfl rfl rfl rfl rfl) ?_
 refine aW (iX (enc:=eU8) (o:=0)) ?_
 exact ao H
def fc (a0:List aE):Option (List aE):=
 bif zQ 16 (a0.length:Int) (a0.length:Int) then(some (cpL (Xa ((a0.length:Int)).toNat tf) a0)) else none
theorem oI {a0:List aE} {r:List aE} (H:fc a0=some r):Fn prog 156 [aL (a0.map aZ)] [.c (.own 132 2 (r.map aZ) r.length)]:=by
 refine fI func156 ntmps156 ?_
 obtain⟨h,H⟩:=rq H
 refine nA (mkT (enc:=aZ) (za:=tf) h (by rfl)) ?_
 refine eX rfl (cpT (enc:=aZ) (ys:=(Xa ((a0.length:Int)).toNat tf)) (zs:=a0) rfl (λ_=>rfl) (by first|rfl|simp) .d rfl rfl rfl rfl rfl) ?_
 refine aW (iX (enc:=aZ) (o:=0)) ?_
 exact ao H
end Go.AM
