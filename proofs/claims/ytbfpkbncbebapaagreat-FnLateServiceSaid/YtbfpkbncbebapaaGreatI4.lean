/- A part. -/
import Derived.Test.YtbfpkbncbebapaaGreatI3
set_option linter.unusedVariables false
open Option renaming bind->aaC
open List renaming range->YQ
namespace Go.AM
open Go.Proofs
open Tryz
attribute [local irreducible] AWN NS AWO AWR AWC DR dO ip
set_option maxRecDepth 100000
set_option maxHeartbeats 40000000
def nh (a0:aU) (v2:Int) (x3:eY):Int->Option (cK (Int) (cK (Int) (Bool)))
 |v7=>bif ltB v7 (x3.b8.length:Int) then(aaC (ix x3.b8 v7) λx8=>aaC (bif eqB x8 v2 then(some true) else(aaC (jF a0 x8) λr10=>bif !r10 then(some true) else(aaC (ti a0 x8 v2) λr11=>some (!r11)))) λ(v9:Bool)=>bif v9 then(dn (dn (some false))) else(some (.next (WR (v7+1))))) else(dn (some (.next (WR (v2+1)))))
def nf (a0:aU):Int->Option (cK (Int) (Bool))
 |v2=>bif ltB v2 (a0.aZ.length:Int) then(aaC (ix a0.aZ v2) λx3=>aaC (bE x3.fJ 0 2) λr4=>aaC (bif !r4 then(some true) else(aaC (nK x3.b8) λr6=>some (!r6))) λ(v5:Bool)=>bif v5 then(dn (some false)) else(iter (nh a0 v2 x3) FU 0)) else(dn (some true))
def sD (a0:aU):Option Bool:=
 aaC (bE (a0.aZ.length:Int) 1 6) λr1=>bif !r1 then(some false) else(iter (nf a0) FU 0)
theorem Fe {a0:aU} {r:Bool} (H:sD a0=some r):Fn prog 63 [.agg (lq a0)] [.c (.d (.b r))]:=by
 refine fI func63 ntmps63 ?_
 refine aa H λr1 q1 H=>nA (ca (hF:=bA q1)) ?_
 refine cC H ?_ ?_<;>intro H
 .exact ao H
 refine iT H (λq=>⟨[(1,tP 0),(13,.v (.c (.d false (.l (a0.aZ.map dL))))),(14,tI (a0.aZ.length:Int)),(15,tI q)],[(0,.var 26 [.d false (.l (a0.aZ.map dL))])],1⟩) ?_
 rintro v2 o H
 try dsimp only
 refine wI ?_
 refine cC H ?_ ?_<;>intro H
 .refine aa H λx3 hx3 H=>nA (xdT (enc:=dL) hx3) ?_
  refine aa H λr4 q4 H=>nA (ca (hF:=bA q4)) ?_
  refine aa H λv5 Hj H=>jR ⟨[(1,tP 0),(3,tI v2),(4,tP 1),(13,.v (.c (.d false (.l (a0.aZ.map dL))))),(14,tI (a0.aZ.length:Int)),(15,tI v2),(29,tB v5)],[(0,.var 26 [.d false (.l (a0.aZ.map dL))]),(1,.var 158 (kM [.f] (L6 x3)))],2⟩ ?_ ?_
  .refine gC Hj ?_ ?_<;>intro H
   .exact ai H
   refine aa H λr6 q6 H=>nG (ca (hF:=wL q6)) ?_
   exact ai H
  refine cC H ?_ ?_<;>intro H
  .obtain⟨r0,Hd,rfl⟩:=dnE H
   refine mR (λhq=>?_)
   have H:=Hd.trans (congrArg some hq)
   refine wI ?_
   exact ao H
  refine iT H (λq=>⟨[(1,tP 0),(3,tI v2),(13,.v (.c (.d false (.l (a0.aZ.map dL))))),(14,tI (a0.aZ.length:Int)),(15,tI v2),(31,.v (.c (.d false (.l (x3.b8.map eI))))),(32,tI (x3.b8.length:Int)),(33,tI q)],[(0,.var 26 [.d false (.l (a0.aZ.map dL))])],1⟩) ?_
  rintro v7 o H
  try dsimp only
  refine wI ?_
  refine cC H ?_ ?_<;>intro H
  .refine aa H λx8 hx8 H=>nA (xdT (enc:=eI) hx8) ?_
   refine aa H λv9 Hj H=>jR ⟨[(1,tP 0),(3,tI v2),(13,.v (.c (.d false (.l (a0.aZ.map dL))))),(14,tI (a0.aZ.length:Int)),(15,tI v2),(31,.v (.c (.d false (.l (x3.b8.map eI))))),(32,tI (x3.b8.length:Int)),(33,tI v7),(52,tB v9)],[(0,.var 26 [.d false (.l (a0.aZ.map dL))])],1⟩ ?_ ?_
   .refine gC Hj ?_ ?_<;>intro H
    .exact ai H
    refine aa H λr10 q10 H=>nG (ca (hF:=lD q10)) ?_
    refine gC H ?_ ?_<;>intro H
    .exact ai H
    refine aa H λr11 q11 H=>nG (ca (hF:=Ce q11)) ?_
    exact ai H
   refine cC H ?_ ?_<;>intro H
   .obtain⟨r0,Hd,rfl⟩:=dnE H
    refine mR (λhq=>?_)
    have H:=Hd.trans (congrArg some hq)
    refine wI ?_
    obtain⟨r0,Hd,rfl⟩:=dnE H
    refine mR (λhq=>?_)
    have H:=Hd.trans (congrArg some hq)
    refine wI ?_
    exact ao H
   cases H
   refine eA ?_
   exact wo
  obtain⟨r0,Hd,rfl⟩:=dnE H
  refine et (λhq=>?_)
  have H:=Hd.trans (congrArg some hq)
  refine wI ?_
  cases H
  refine eA ?_
  exact wo
 obtain⟨r0,Hd,rfl⟩:=dnE H
 refine et (λhq=>?_)
 have H:=Hd.trans (congrArg some hq)
 refine wI ?_
 exact ao H
def m9 (a0:aw):Option Bool:=
 aaC (nm a0.cZ) λr1=>aaC (bif !r1 then(some true) else(aaC (bE a0.aG 0 3) λr3=>bif !r3 then(some true) else(aaC (bE a0.aE 0 5) λr4=>some (!r4)))) λ(v2:Bool)=>bif v2 then(some false) else(aaC (bE a0.ag 0 999999) λr5=>aaC (bif !r5 then(some true) else(aaC (bE a0.aF 0 999999) λr7=>bif !r7 then(some true) else(aaC (bE a0.aV 0 2147483646) λr8=>some (!r8)))) λ(v6:Bool)=>bif v6 then(some false) else(aaC (bif eqB a0.aG 2 then(aaC (gA a0.aV) λr10=>some (!r10)) else(bif eqB a0.aG 3 then(aaC (gA a0.aV) λr11=>some (!r11)) else(some false))) λ(v9:Bool)=>bif v9 then(some false) else(aaC (bE a0.di 0 3) λr12=>aaC (bif r12 then(aaC (jg a0.aT) λr14=>some r14) else(some false)) λ(v13:Bool)=>some v13)))
theorem A7 {a0:aw} {r:Bool} (H:m9 a0=some r):Fn prog 128 [.agg (dq a0)] [.c (.d (.b r))]:=by
 refine fI func128 ntmps128 ?_
 refine aa H λr1 q1 H=>nA (ca (hF:=wv q1)) ?_
 refine aa H λv2 Hj H=>jR ⟨[(1,tP 0),(18,tB v2)],[(0,.var 86 (kM [.f,.f] (fL a0)))],1⟩ ?_ ?_
 .refine gC Hj ?_ ?_<;>intro H
  .exact ai H
  refine aa H λr3 q3 H=>nG (ca (hF:=bA q3)) ?_
  refine gC H ?_ ?_<;>intro H
  .exact ai H
  refine aa H λr4 q4 H=>nG (ca (hF:=bA q4)) ?_
  exact ai H
 refine cC H ?_ ?_<;>intro H
 .exact ao H
 refine aa H λr5 q5 H=>nA (ca (hF:=bA q5)) ?_
 refine aa H λv6 Hj H=>jR ⟨[(1,tP 0),(34,tB v6)],[(0,.var 86 (kM [.f,.f] (fL a0)))],1⟩ ?_ ?_
 .refine gC Hj ?_ ?_<;>intro H
  .exact ai H
  refine aa H λr7 q7 H=>nG (ca (hF:=bA q7)) ?_
  refine gC H ?_ ?_<;>intro H
  .exact ai H
  refine aa H λr8 q8 H=>nG (ca (hF:=bA q8)) ?_
  exact ai H
 refine cC H ?_ ?_<;>intro H
 .exact ao H
 refine aa H λv9 Hj H=>jR ⟨[(1,tP 0),(48,tB v9)],[(0,.var 86 (kM [.f,.f] (fL a0)))],1⟩ ?_ ?_
 .refine gC Hj ?_ ?_<;>intro H
  .refine aa H λr10 q10 H=>nG (ca (hF:=gX q10)) ?_
   exact ai H
  refine gC H ?_ ?_<;>intro H
  .refine aa H λr11 q11 H=>nG (ca (hF:=gX q11)) ?_
   exact ai H
  exact ai H
 refine cC H ?_ ?_<;>intro H
 .exact ao H
 refine aa H λr12 q12 H=>nA (ca (hF:=bA q12)) ?_
 refine aa H λv13 Hj H=>jR ⟨[(2,tB v13)],[],0⟩ ?_ ?_
 .refine gC Hj ?_ ?_<;>intro H
  .refine aa H λr14 q14 H=>nG (ca (hF:=rm q14)) ?_
   exact ai H
  exact ai H
 exact ao H
def f8 (a0:ae):Int->Option (cK (Int) (Bool))
 |v23=>bif ltB v23 (a0.aq.aD.length:Int) then(aaC (ix a0.aq.aD v23) λx24=>aaC (ix a0.ax (WR (x24.cQ-1))) λx25=>aaC (sx x24.a8 x25.a8) λr26=>bif !r26 then(dn (some false)) else(some (.next (WR (v23+1))))) else(dn (aaC (iJ a0) λr27=>aaC (jO a0.bC) λr28=>some (leB r27 r28)))
def iC (a0:ae):Option Bool:=
 aaC (fg a0.be) λr1=>aaC (bif !r1 then(some true) else(aaC (iI a0.gT) λr3=>bif !r3 then(some true) else(aaC (ni a0.eo) λr4=>bif !r4 then(some true) else(aaC (kO a0.aq) λr5=>bif !r5 then(some true) else(aaC (iV a0.bC) λr6=>some (!r6)))))) λ(v2:Bool)=>bif v2 then(some false) else(aaC (bif !eqB a0.aG 0 then(some (!eqB a0.aG 1)) else(some false)) λ(v7:Bool)=>bif v7 then(some false) else(aaC (bif eqB a0.aG 1 then(aaC (gA a0.aV) λr9=>bif !r9 then(some true) else(bif ltB 0 a0.bi then(aaC (gA a0.aO.eR) λr10=>some (!r10)) else(some false))) else(bif ltB 0 a0.bi then(aaC (gA a0.aO.eR) λr11=>some (!r11)) else(some false))) λ(v8:Bool)=>bif v8 then(some false) else(aaC (bE a0.bi 0 999999) λr12=>aaC (bif !r12 then(some true) else(aaC (bE a0.ag 0 999999) λr14=>bif !r14 then(some true) else(aaC (bE a0.aF 0 999999) λr15=>bif !r15 then(some true) else(aaC (bE a0.aV 0 2147483646) λr16=>some (!r16))))) λ(v13:Bool)=>bif v13 then(some false) else(aaC (bE a0.aE 0 5) λr17=>aaC (bif !r17 then(some true) else(aaC (bE a0.c9 0 5) λr19=>bif !r19 then(some true) else(aaC (bE a0.cR 0 3) λr20=>some (!r20)))) λ(v18:Bool)=>bif v18 then(some false) else(aaC (bif ltB 24 (a0.ax.length:Int) then(some true) else(aaC (sM a0.ax) λr22=>bif !r22 then(some true) else(some (ltB (WR ((a0.ax.length:Int)+1)) a0.aq.bb)))) λ(v21:Bool)=>bif v21 then(some false) else(iter (f8 a0) FU 0))))))
theorem nj {a0:ae} {r:Bool} (H:iC a0=some r):Fn prog 129 [.agg (cG a0)] [.c (.d (.b r))]:=by
 refine fI func129 ntmps129 ?_
 refine aa H λr1 q1 H=>nA (ca (hF:=kQ q1)) ?_
 refine aa H λv2 Hj H=>jR ⟨[(1,tP 0),(32,tB v2)],[(0,.var 69 (kM [.f,.f,.f] (cW a0)))],1⟩ ?_ ?_
 .refine gC Hj ?_ ?_<;>intro H
  .exact ai H
  refine aa H λr3 q3 H=>nG (ca (hF:=uS q3)) ?_
  refine gC H ?_ ?_<;>intro H
  .exact ai H
  refine aa H λr4 q4 H=>nG (ca (hF:=A8 q4)) ?_
  refine gC H ?_ ?_<;>intro H
  .exact ai H
  refine aa H λr5 q5 H=>nG (ca (hF:=ol q5)) ?_
  refine gC H ?_ ?_<;>intro H
  .exact ai H
  refine aa H λr6 q6 H=>nG (ca (hF:=mn q6)) ?_
  exact ai H
 refine cC H ?_ ?_<;>intro H
 .exact ao H
 refine aa H λv7 Hj H=>jR ⟨[(1,tP 0),(40,tB v7)],[(0,.var 69 (kM [.f,.f,.f] (cW a0)))],1⟩ ?_ ?_
 .refine gC Hj ?_ ?_<;>intro H
  .exact ai H
  exact ai H
 refine cC H ?_ ?_<;>intro H
 .exact ao H
 refine aa H λv8 Hj H=>jR ⟨[(1,tP 0),(61,tB v8)],[(0,.var 69 (kM [.f,.f,.f] (cW a0)))],1⟩ ?_ ?_
 .refine gC Hj ?_ ?_<;>intro H
  .refine aa H λr9 q9 H=>nG (ca (hF:=gX q9)) ?_
   refine gC H ?_ ?_<;>intro H
   .exact ai H
   refine gC H ?_ ?_<;>intro H
   .refine aa H λr10 q10 H=>nG (ca (hF:=gX q10)) ?_
    exact ai H
   exact ai H
  refine gC H ?_ ?_<;>intro H
  .refine aa H λr11 q11 H=>nG (ca (hF:=gX q11)) ?_
   exact ai H
  exact ai H
 refine cC H ?_ ?_<;>intro H
 .exact ao H
 refine aa H λr12 q12 H=>nA (ca (hF:=bA q12)) ?_
 refine aa H λv13 Hj H=>jR ⟨[(1,tP 0),(83,tB v13)],[(0,.var 69 (kM [.f,.f,.f] (cW a0)))],1⟩ ?_ ?_
 .refine gC Hj ?_ ?_<;>intro H
  .exact ai H
  refine aa H λr14 q14 H=>nG (ca (hF:=bA q14)) ?_
  refine gC H ?_ ?_<;>intro H
  .exact ai H
  refine aa H λr15 q15 H=>nG (ca (hF:=bA q15)) ?_
  refine gC H ?_ ?_<;>intro H
  .exact ai H
  refine aa H λr16 q16 H=>nG (ca (hF:=bA q16)) ?_
  exact ai H
 refine cC H ?_ ?_<;>intro H
 .exact ao H
 refine aa H λr17 q17 H=>nA (ca (hF:=bA q17)) ?_
 refine aa H λv18 Hj H=>jR ⟨[(1,tP 0),(99,tB v18)],[(0,.var 69 (kM [.f,.f,.f] (cW a0)))],1⟩ ?_ ?_
 .refine gC Hj ?_ ?_<;>intro H
  .exact ai H
  refine aa H λr19 q19 H=>nG (ca (hF:=bA q19)) ?_
  refine gC H ?_ ?_<;>intro H
  .exact ai H
  refine aa H λr20 q20 H=>nG (ca (hF:=bA q20)) ?_
  exact ai H
 refine cC H ?_ ?_<;>intro H
 .exact ao H
 refine aa H λv21 Hj H=>jR ⟨[(1,tP 0),(119,tB v21)],[(0,.var 69 (kM [.f,.f,.f] (cW a0)))],1⟩ ?_ ?_
 .refine gC Hj ?_ ?_<;>intro H
  .exact ai H
  refine aa H λr22 q22 H=>nG (ca (hF:=yd q22)) ?_
  refine gC H ?_ ?_<;>intro H
  .exact ai H
  exact ai H
 refine cC H ?_ ?_<;>intro H
 .exact ao H
 refine iT H (λq=>⟨[(1,tP 0),(122,.v (.c (.d false (.l (a0.aq.aD.map aN))))),(123,tI (a0.aq.aD.length:Int)),(124,tI q)],[(0,.var 69 (kM [.f,.f,.f] (cW a0)))],1⟩) ?_
 rintro v23 o H
 try dsimp only
 refine wI ?_
 refine cC H ?_ ?_<;>intro H
 .refine aa H λx24 hx24 H=>nA (xdT (enc:=aN) hx24) ?_
  refine dI ?_
  refine aa H λx25 hx25 H=>dA (xdT (enc:=cg) hx25) ?_
  refine aa H λr26 q26 H=>dA (ca (hF:=ya q26)) ?_
  refine wI ?_
  refine cC H ?_ ?_<;>intro H
  .obtain⟨r0,Hd,rfl⟩:=dnE H
   refine mR (λhq=>?_)
   have H:=Hd.trans (congrArg some hq)
   refine wI ?_
   exact ao H
  cases H
  refine eA ?_
  exact wo
 obtain⟨r0,Hd,rfl⟩:=dnE H
 refine et (λhq=>?_)
 have H:=Hd.trans (congrArg some hq)
 refine wI ?_
 refine dI ?_
 refine aa H λr27 q27 H=>dA (ca (hF:=qi q27)) ?_
 refine aa H λr28 q28 H=>dA (ca (hF:=sF q28)) ?_
 refine wI ?_
 exact ao H
def gr (a0:ae):Option ae:=
 aaC (kC a0.gT) λr1=>aaC (lX a0.ax) λr2=>aaC (kW a0.aq) λr3=>some {a0 with gT:=r1,ax:=r2,aq:=r3}
theorem kX {a0:ae} {r:ae} (H:gr a0=some r):Fn prog 59 [.agg (cG a0)] [.agg (qM [.o,.o,.o] (cW r))]:=by
 refine fI func59 ntmps59 ?_
 refine aa H λr1 q1 H=>nA (ca (hF:=xQ q1)) ?_
 refine aa H λr2 q2 H=>nA (ca (hF:=vH q2)) ?_
 refine aa H λr3 q3 H=>nA (ca (hF:=jZ q3)) ?_
 exact ao H
def kT (a0:aw):Option aw:=
 aaC (lY a0.aT) λr1=>some {a0 with aT:=r1}
theorem tx {a0:aw} {r:aw} (H:kT a0=some r):Fn prog 108 [.agg (dq a0)] [.agg (qM [.o,.o] (fL r))]:=by
 refine fI func108 ntmps108 ?_
 refine aa H λr1 q1 H=>nA (ca (hF:=vI q1)) ?_
 exact ao H
def pu (a0:a9):Option a9:=
 aaC (uX a0.b6) λr1=>some {a0 with b6:=r1}
theorem yc {a0:a9} {r:a9} (H:pu a0=some r):Fn prog 112 [.agg (eH a0)] [.agg (qM [.o] (tV r))]:=by
 refine fI func112 ntmps112 ?_
 refine aa H λr1 q1 H=>nA (ca (hF:=HT q1)) ?_
 exact ao H
def lT (a1:List Int):(Int×Int)->Option (cK (Int×Int) (Int))
 |(v2,v3)=>bif ltB v3 (a1.length:Int) then(aaC (ix a1 v3) λx7=>aaC (lC v2 x7) λr8=>some (.next (r8,WR (v3+1)))) else(some (.done v2))
def eJ (a0:Int) (a1:List Int):Option Int:=
 aaC (lC 11 a0) λr1=>aaC (iter (lT a1) FU (r1,0)) λ(v6:Int)=>aaC (lC v6 a0) λr9=>some r9
theorem eM {a0:Int} {a1:List Int} {r:Int} (H:eJ a0 a1=some r):Fn prog 189 [aI a0,aL (a1.map eI)] [.c (.d (.i .i64 r))]:=by
 refine fI func189 ntmps189 ?_
 refine aa H λr1 q1 H=>nA (ca (hF:=wK q1)) ?_
 refine aa H λv6 Hj H=>jB ⟨[(0,tI a0),(5,tI v6)],[],0⟩ ?_ ?_
 .refine iT Hj (λq=>⟨[(0,tI a0),(5,tI q.1),(10,.v (.c (.d false (.l (a1.map eI))))),(11,tI (a1.length:Int)),(12,tI q.2)],[],0⟩) ?_
  rintro⟨v2,v3⟩ o H
  try dsimp only
  refine wI ?_
  refine cC H ?_ ?_<;>intro H
  .refine aa H λx7 hx7 H=>nA (xdT (enc:=eI) hx7) ?_
   refine aa H λr8 q8 H=>nA (ca (hF:=wK q8)) ?_
   cases H
   refine eA ?_
   exact wo
  cases H
  refine et (λhq=>?_)
  cases hq
  refine wI ?_
  exact wo
 refine aa H λr9 q9 H=>nA (ca (hF:=wK q9)) ?_
 exact ao H
def nC (a0:av) (a1:dh):Option (av×dh):=
 aaC (fE a0 a1) λr1=>bif !r1 then(aaC (eN a0) λr2=>some (r2,a1)) else(aaC (HO a0 a1.aC a1.d4) λr3=>bif !r3.2 then(aaC (eN a0) λr4=>some (r4,a1)) else(some (r3.1,(⟨a1.aC,WR (a1.cB-a1.d4),0⟩:dh))))
theorem DW {a0:av} {a1:dh} {r:av×dh} (H:nC a0 a1=some r):Fn prog 85 [.agg (dB a0),.agg (sj a1)] [.agg (qM [.o] (cT r.1)),.agg (qM [] (zr r.2))]:=by
 refine fI func85 ntmps85 ?_
 refine aa H λr1 q1 H=>nA (ca (hF:=jx q1)) ?_
 refine cC H ?_ ?_<;>intro H
 .refine zI (YQ 5) ?_
  refine aa H λr2 q2 H=>zA (ca (hF:=fj q2)) ?_
  refine wA (spx 100508) ?_
  refine wA (spx 100507) ?_
  exact ao H
 refine aa H λr3 q3 H=>nA (ca (hF:=Sp q3)) ?_
 refine cC H ?_ ?_<;>intro H
 .refine zI (YQ 5) ?_
  refine aa H λr4 q4 H=>zA (ca (hF:=fj q4)) ?_
  refine wA (spx 100510) ?_
  refine wA (spx 100509) ?_
  exact ao H
 refine zI (YQ 4) ?_
 refine wA (spx 100512) ?_
 refine wA (spx 100511) ?_
 exact ao H
def wT (r4:cL×List Int):(Int×List aR)->Option (cK (Int×List aR) (List aR))
 |(v5,v6)=>bif ltB v5 (r4.2.length:Int) then(aaC (ix r4.2 v5) λx9=>bif em 88 (v6++[{fG with aS:=7,aE:=x9}]).length then(some (.next (WR (v5+1),(v6++[{fG with aS:=7,aE:=x9}])))) else none) else(some (.done v6))
def sN (a0:ae) (a1:av) (a2:aU):Option bZ:=
 aaC (jF a2 a0.aE) λr1=>aaC (bif r1 then(aaC (CK a2 a0.aE) λr3=>some r3) else(some 0)) λ(v2:Int)=>aaC (sK {a0.eo with fJ:=v2} a2) λr4=>aaC (iter (wT r4) FU (0,([]:List aR))) λ(v8:List aR)=>some (⟨{a0 with eo:=r4.1},a1,v8,[]⟩:bZ)
theorem Fp {a0:ae} {a1:av} {a2:aU} {r:bZ} (H:sN a0 a1 a2=some r):FnV prog 226 [] [.v (.agg (kM [.t,.t,.t] (cW a0))),.v (.agg (kM [.t] (cT a1))),.v (.agg [.d false (.l (a2.aZ.map dL))])] [] (.v (.agg (kM [.t,.t,.t,.t,.n 210,.z] (cq {r with b6:=[]})))) [(210,n42 r.eW)]:=by
 refine fV func226 ntmps226 ?_
 refine aa H λr1 q1 H=>nA (ca (hF:=lD q1)) ?_
 refine aa H λv2 Hj H=>jA ⟨[(3,tP 210),(4,tP 211),(5,tP 212),(6,tP 213)],[(210,.var 69 (kM [.t,.t,.t] (cW {a0 with eo:={a0.eo with fJ:=v2}}))),(211,.var 89 (kM [.t] (cT a1))),(212,.var 26 [.d false (.l (a2.aZ.map dL))]),(213,.var 188 (kM [.z,.z,.z,.z,.z,.z] (cq dr)))],214⟩ ?_ ?_
 .refine cC Hj ?_ ?_<;>intro H
  .refine aa H λr3 q3 H=>nA (ca (hF:=PF q3)) ?_
   exact ai H
  exact ai H
 refine aa H λr4 q4 H=>nA (ca (hF:=Fk q4)) ?_
 refine aa H λv8 Hj H=>jB ⟨[(6,tP 213),(9,tP 216)],(oM [.t,.t,.t,.t,.n 217,.z] 216 188 (cq (⟨{a0 with eo:=r4.1},a1,v8,[]⟩:bZ))++[(213,.var 188 (kM [.z,.z,.z,.z,.z,.z] (cq dr)))]),218⟩ ?_ ?_
 .refine iT Hj (λq=>⟨[(6,tP 213),(9,tP 216),(36,.v (.c (.w 214 r4.2.length))),(37,tI (r4.2.length:Int)),(38,tI q.1)],(oM [.t,.t,.t,.t,.n 217,.z] 216 188 (cq (⟨{a0 with eo:=r4.1},a1,q.2,[]⟩:bZ))++[(213,.var 188 (kM [.z,.z,.z,.z,.z,.z] (cq dr))),(214,w3 r4.2)]),218⟩) ?_ (by refine aH (gU (o:=216) (j:=34) 42 11 true) ?_;refine aH (wB 217 (([]:List aR).length)) ?_;exact wo)
  rintro⟨v5,v6⟩ o H
  try dsimp only
  refine wI ?_
  refine cC H ?_ ?_<;>intro H
  .refine aa H λx9 hx9 H=>nA (xwT hx9) ?_
   refine nA (oe (he:=eU _ hx9)) ?_
   obtain⟨h,H⟩:=rq H
   refine sA (Hn (enc:=dY) (ys:=v6) (zs:=[{fG with aS:=7,aE:=x9}]) h (by first|exact List.cons_ne_nil _ _|simp) rfl (λ_=>rfl) (by first|rfl|simp) (.w rfl (by first|rfl|exact lm _|simp)) rfl rfl rfl rfl rfl rfl rfl rfl rfl rfl) ?_
   cases H
   refine eA ?_
   refine aH (lk 217) ?_
   exact wo
  cases H
  refine et (λhq=>?_)
  cases hq
  refine wI ?_
  exact wo
 cases H
 refine bO (wS 217 210) ?_
 exact cV
def oR (a0:av) (a1:dh) (a2:Int):Option (av×dh):=
 aaC (fE a0 a1) λr1=>bif !r1 then(aaC (eN a0) λr2=>some (r2,a1)) else(aaC (zH a0 a1.aC a2) λr3=>bif ltB 100000 (WR (a1.cB+r3.2)) then(aaC (eN a0) λr4=>some (r4,a1)) else(some (r3.1,{a1 with cB:=WR (a1.cB+r3.2)})))
theorem Cl {a0:av} {a1:dh} {a2:Int} {r:av×dh} (H:oR a0 a1 a2=some r):Fn prog 325 [.agg (dB a0),.agg (sj a1),aI a2] [.agg (qM [.o] (cT r.1)),.agg (qM [] (zr r.2))]:=by
 refine fI func325 ntmps325 ?_
 refine aa H λr1 q1 H=>nA (ca (hF:=jx q1)) ?_
 refine cC H ?_ ?_<;>intro H
 .refine zI (YQ 5) ?_
  refine aa H λr2 q2 H=>zA (ca (hF:=fj q2)) ?_
  refine wA (spx 100524) ?_
  refine wA (spx 100523) ?_
  exact ao H
 refine aa H λr3 q3 H=>nA (ca (hF:=Mh q3)) ?_
 refine cC H ?_ ?_<;>intro H
 .refine zI (YQ 5) ?_
  refine aa H λr4 q4 H=>zA (ca (hF:=fj q4)) ?_
  refine wA (spx 100526) ?_
  refine wA (spx 100525) ?_
  exact ao H
 refine zI (YQ 4) ?_
 refine wA (spx 100528) ?_
 refine wA (spx 100527) ?_
 exact ao H
end Go.AM
