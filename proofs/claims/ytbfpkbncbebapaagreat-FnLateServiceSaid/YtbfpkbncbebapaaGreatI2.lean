/- A part. -/
import Derived.Test.YtbfpkbncbebapaaGreatI1
set_option linter.unusedVariables false
open Option renaming bind->aaC
open List renaming replicate->YV,range->YQ
namespace Go.AM
open Go.Proofs
open Tryz
attribute [local irreducible] AWN NS AWO AWR AWC DR dO ip
set_option maxRecDepth 100000
set_option maxHeartbeats 40000000
def ti (a0:aU) (a1:Int) (a2:Int):Option Bool:=
 aaC (jF a0 a1) λr1=>aaC (bif r1 then(aaC (ix a0.aZ a1) λx3=>aaC (gm x3.b8 a2) λr4=>some r4) else(some false)) λ(v2:Bool)=>some v2
theorem Ce {a0:aU} {a1:Int} {a2:Int} {r:Bool} (H:ti a0 a1 a2=some r):Fn prog 127 [.agg (lq a0),aI a1,aI a2] [.c (.d (.b r))]:=by
 refine fI func127 ntmps127 ?_
 refine aa H λr1 q1 H=>nA (ca (hF:=lD q1)) ?_
 refine aa H λv2 Hj H=>jR ⟨[(6,tB v2)],[],0⟩ ?_ ?_
 .refine gC Hj ?_ ?_<;>intro H
  .refine aa H λx3 hx3 H=>nG (xdT (enc:=dL) hx3) ?_
   refine aa H λr4 q4 H=>nG (ca (hF:=rh q4)) ?_
   exact ai H
  exact ai H
 exact ao H
def fE (a0:av) (a1:dh):Option Bool:=
 aaC (gO a0) λr1=>aaC (bif r1 then(aaC (iV a1) λr3=>bif r3 then(aaC (nD a0 a1.aC) λr4=>some (eqB r4 a1.cB)) else(some false)) else(some false)) λ(v2:Bool)=>some v2
theorem jx {a0:av} {a1:dh} {r:Bool} (H:fE a0 a1=some r):Fn prog 83 [.agg (dB a0),.agg (sj a1)] [.c (.d (.b r))]:=by
 refine fI func83 ntmps83 ?_
 refine dI ?_
 refine aa H λr1 q1 H=>dA (ca (hF:=kx q1)) ?_
 refine aa H λv2 Hj H=>jt ⟨[(4,tB v2)],[],0⟩ ?_ ?_
 .have H:=Hj
  refine wI ?_
  refine dC H ?_ ?_<;>intro H
  .refine aa H λr3 q3 H=>dG (ca (hF:=mn q3)) ?_
   refine dC H ?_ ?_<;>intro H
   .refine aa H λr4 q4 H=>dG (ca (hF:=wD q4)) ?_
    refine wI ?_
    exact ai H
   refine wI ?_
   exact ai H
  refine wI ?_
  exact ai H
 refine wI ?_
 exact ao H
def nm (a0:qf):Option Bool:=
 aaC (gB a0.ID) λr1=>aaC (bif r1 then(aaC (gA a0.eR) λr3=>bif r3 then(aaC (bE a0.df 0 999999) λr4=>some r4) else(some false)) else(some false)) λ(v2:Bool)=>some v2
theorem wv {a0:qf} {r:Bool} (H:nm a0=some r):Fn prog 191 [.agg (LW a0)] [.c (.d (.b r))]:=by
 refine fI func191 ntmps191 ?_
 refine aa H λr1 q1 H=>nA (ca (hF:=nk q1)) ?_
 refine aa H λv2 Hj H=>jR ⟨[(2,tB v2)],[],0⟩ ?_ ?_
 .refine gC Hj ?_ ?_<;>intro H
  .refine aa H λr3 q3 H=>nG (ca (hF:=gX q3)) ?_
   refine gC H ?_ ?_<;>intro H
   .refine aa H λr4 q4 H=>nG (ca (hF:=bA q4)) ?_
    exact ai H
   exact ai H
  exact ai H
 exact ao H
def fg (a0:aP):Option Bool:=
 aaC (gB a0.ID) λr1=>aaC (bif r1 then(aaC (gA a0.eR) λr3=>bif r3 then(aaC (bE a0.cQ 0 999999) λr4=>some r4) else(some false)) else(some false)) λ(v2:Bool)=>some v2
theorem kQ {a0:aP} {r:Bool} (H:fg a0=some r):Fn prog 194 [.agg (cE a0)] [.c (.d (.b r))]:=by
 refine fI func194 ntmps194 ?_
 refine aa H λr1 q1 H=>nA (ca (hF:=nk q1)) ?_
 refine aa H λv2 Hj H=>jR ⟨[(2,tB v2)],[],0⟩ ?_ ?_
 .refine gC Hj ?_ ?_<;>intro H
  .refine aa H λr3 q3 H=>nG (ca (hF:=gX q3)) ?_
   refine gC H ?_ ?_<;>intro H
   .refine aa H λr4 q4 H=>nG (ca (hF:=bA q4)) ?_
    exact ai H
   exact ai H
  exact ai H
 exact ao H
def kW (a0:bh):Option bh:=
 aaC (jY a0.aD) λr1=>some (⟨a0.bb,r1⟩:bh)
theorem jZ {a0:bh} {r:bh} (H:kW a0=some r):Fn prog 124 [.agg (lu a0)] [.agg (qM [.o] (fm r))]:=by
 refine fI func124 ntmps124 ?_
 refine zI (YQ 7) ?_
 refine aa H λr1 q1 H=>zA (ca (hF:=pX q1)) ?_
 refine wA (spx 100490) ?_
 exact ao H
def lY (a0:aX):Option aX:=
 aaC (jY a0.aO) λr1=>aaC (lX a0.bj) λr2=>some (⟨a0.bb,r1,r2⟩:aX)
theorem vI {a0:aX} {r:aX} (H:lY a0=some r):Fn prog 177 [.agg (jM a0)] [.agg (qM [.o,.o] (cH r))]:=by
 refine fI func177 ntmps177 ?_
 refine zI (YQ 10) ?_
 refine aa H λr1 q1 H=>zA (ca (hF:=pX q1)) ?_
 refine aa H λr2 q2 H=>zA (ca (hF:=vH q2)) ?_
 refine wA (spx 100492) ?_
 exact ao H
def qx (a0:b5):Option b5:=
 aaC (eK a0.a8) λr1=>some {a0 with a8:=r1}
theorem D1 {a0:b5} {r:b5} (H:qx a0=some r):Fn prog 256 [.agg (lr a0)] [.agg (qM [.o] (tW r))]:=by
 refine fI func256 ntmps256 ?_
 refine aa H λr1 q1 H=>nA (ca (hF:=gq q1)) ?_
 exact ao H
def PG (a0:Int) (a1:Int):Option Int:=
 aaC (bE a1 1 1000000000000) λr1=>bif !r1 then(some 0) else(bif !eqB a1 0 then(aaC (bif ltB (Int.tmod a0 a1) 0 then(some (WR ((Int.tmod a0 a1)+a1))) else(some (Int.tmod a0 a1))) λ(v2:Int)=>some v2) else none)
theorem Me {a0:Int} {a1:Int} {r:Int} (H:PG a0 a1=some r):Fn prog 309 [aI a0,aI a1] [.c (.d (.i .i64 r))]:=by
 refine fI func309 ntmps309 ?_
 refine aa H λr1 q1 H=>nA (ca (hF:=bA q1)) ?_
 refine cC H ?_ ?_<;>intro H
 .exact ao H
 obtain⟨h,H⟩:=rq H
 refine nA (ir rfl rfl rfl (ne0 h)) ?_
 refine aa H λv2 Hj H=>jA ⟨[(5,tI v2)],[],0⟩ ?_ ?_
 .refine cC Hj ?_ ?_<;>intro H
  .exact ai H
  exact ai H
 exact ao H
def pR (a0:aU):(Int×List Int)->Option (cK (Int×List Int) (List Int))
 |(v3,v4)=>bif ltB v3 (((YV ((a0.aZ.length:Int)).toNat (0:Int)).length:Nat):Int) then(aaC (ix v4 v3) λx7=>some (.next (WR (v3+1),(v4.set (v3).toNat v3)))) else(some (.done v4))
def pS (a0:aU):(Int×List Int)->Option (cK (Int×List Int) (List Int))
 |(v8,v9)=>bif ltB v8 (((YV ((a0.aZ.length:Int)).toNat (0:Int)).length:Nat):Int) then(aaC (ix v9 v8) λx12=>some (.next (WR (v8+1),(v9.set (v8).toNat v8)))) else(some (.done v9))
def qs (a0:aU) (a1:Int) (a2:Int):Option (List Int):=
 aaC (bE a2 1 4) λr1=>bif !r1 then(some ([]:List Int)) else(bif eqB a2 1 then(aaC (uQ a0 a1) λr2=>bif ltB 0 (r2.length:Int) then(some r2) else(bif pD 8 (a0.aZ.length:Int) (a0.aZ.length:Int) then(aaC (iter (pR a0) FU (0,(YV ((a0.aZ.length:Int)).toNat (0:Int)))) λ(v6:List Int)=>some v6) else none)) else(bif pD 8 (a0.aZ.length:Int) (a0.aZ.length:Int) then(aaC (iter (pS a0) FU (0,(YV ((a0.aZ.length:Int)).toNat (0:Int)))) λ(v11:List Int)=>some v11) else none))
theorem DT {a0:aU} {a1:Int} {a2:Int} {r:List Int} (H:qs a0 a1 a2=some r):Fn prog 323 [.agg (lq a0),aI a1,aI a2] [.c (.own 3 1 (r.map eI) r.length)]:=by
 refine fI func323 ntmps323 ?_
 refine aa H λr1 q1 H=>nA (ca (hF:=bA q1)) ?_
 refine cC H ?_ ?_<;>intro H
 .exact ao H
 refine cC H ?_ ?_<;>intro H
 .refine aa H λr2 q2 H=>nA (ca (hF:=DN q2)) ?_
  refine cC H ?_ ?_<;>intro H
  .exact ao H
  obtain⟨h,H⟩:=rq H
  refine nA (mkT (enc:=eI) (za:=0) h (by rfl)) ?_
  refine aa H λv6 Hj H=>jB ⟨[(8,.v (.c (.w 2 v6.length)))],[(2,w3 v6)],3⟩ ?_ ?_
  .refine iT Hj (λq=>⟨[(8,.v (.c (.w 2 q.2.length))),(28,tI (((YV ((a0.aZ.length:Int)).toNat (0:Int)).length:Nat):Int)),(29,tI q.1)],[(2,w3 q.2)],3⟩) ?_
   rintro⟨v3,v4⟩ o H
   try dsimp only
   refine wI ?_
   refine cC H ?_ ?_<;>intro H
   .refine aa H λx7 hx7 H=>nA (xwT hx7) ?_
    refine sA (soT (enc:=eI) (a':=v3) hx7) ?_
    cases H
    refine eA ?_
    exact wo
   cases H
   refine et (λhq=>?_)
   cases hq
   refine wI ?_
   exact wo
  exact ao H
 obtain⟨h,H⟩:=rq H
 refine nA (mkT (enc:=eI) (za:=0) h (by rfl)) ?_
 refine aa H λv11 Hj H=>jB ⟨[(8,.v (.c (.w 1 v11.length)))],[(1,w3 v11)],2⟩ ?_ ?_
 .refine iT Hj (λq=>⟨[(8,.v (.c (.w 1 q.2.length))),(28,tI (((YV ((a0.aZ.length:Int)).toNat (0:Int)).length:Nat):Int)),(29,tI q.1)],[(1,w3 q.2)],2⟩) ?_
  rintro⟨v8,v9⟩ o H
  try dsimp only
  refine wI ?_
  refine cC H ?_ ?_<;>intro H
  .refine aa H λx12 hx12 H=>nA (xwT hx12) ?_
   refine sA (soT (enc:=eI) (a':=v8) hx12) ?_
   cases H
   refine eA ?_
   exact wo
  cases H
  refine et (λhq=>?_)
  cases hq
  refine wI ?_
  exact wo
 exact ao H
def kP (a0:aR):Option Bool:=
 aaC (bE a0.aS 1 8) λr1=>aaC (bif r1 then(aaC (bE a0.aE 0 5) λr3=>bif r3 then(aaC (bE a0.ag 0 999999) λr4=>bif r4 then(aaC (bE a0.aF 0 999999) λr5=>bif r5 then(aaC (bE a0.bI 0 1000000000000) λr6=>some r6) else(some false)) else(some false)) else(some false)) else(some false)) λ(v2:Bool)=>some v2
theorem t9 {a0:aR} {r:Bool} (H:kP a0=some r):Fn prog 286 [.agg (dY a0)] [.c (.d (.b r))]:=by
 refine fI func286 ntmps286 ?_
 refine aa H λr1 q1 H=>nA (ca (hF:=bA q1)) ?_
 refine aa H λv2 Hj H=>jR ⟨[(2,tB v2)],[],0⟩ ?_ ?_
 .refine gC Hj ?_ ?_<;>intro H
  .refine aa H λr3 q3 H=>nG (ca (hF:=bA q3)) ?_
   refine gC H ?_ ?_<;>intro H
   .refine aa H λr4 q4 H=>nG (ca (hF:=bA q4)) ?_
    refine gC H ?_ ?_<;>intro H
    .refine aa H λr5 q5 H=>nG (ca (hF:=bA q5)) ?_
     refine gC H ?_ ?_<;>intro H
     .refine aa H λr6 q6 H=>nG (ca (hF:=bA q6)) ?_
      exact ai H
     exact ai H
    exact ai H
   exact ai H
  exact ai H
 exact ao H
def oP (a0:dh) (a1:Int):Option (dh×Bool):=
 aaC (iV a0) λr1=>aaC (bif !r1 then(some true) else(aaC (bE a1 0 (WR (a0.cB-a0.d4))) λr3=>some (!r3))) λ(v2:Bool)=>bif v2 then(some (a0,false)) else(some ({a0 with d4:=WR (a0.d4+a1)},true))
theorem Ci {a0:dh} {a1:Int} {r:dh×Bool} (H:oP a0 a1=some r):Fn prog 330 [.agg (sj a0),aI a1] [.agg (qM [] (zr r.1)),.c (.d (.b r.2))]:=by
 refine fI func330 ntmps330 ?_
 refine aa H λr1 q1 H=>nA (ca (hF:=mn q1)) ?_
 refine aa H λv2 Hj H=>jR ⟨[(1,tI a1),(2,tP 0),(4,tP 1),(18,tB v2)],[(0,.var 67 (kM [] (zr a0))),(1,.var 67 (kM [] (zr IV)))],2⟩ ?_ ?_
 .refine gC Hj ?_ ?_<;>intro H
  .exact ai H
  refine aa H λr3 q3 H=>nG (ca (hF:=bA q3)) ?_
  exact ai H
 refine cC H ?_ ?_<;>intro H
 .exact ao H
 exact ao H
def mq (a0:b5):Option Bool:=
 aaC (bif eqB a0.ea 0 then(aaC (bE a0.ks 1 100000) λr2=>bif r2 then(bif leB (a0.a8.length:Int) 60 then(aaC (bE a0.tL 0 2147483646) λr3=>some r3) else(some false)) else(some false)) else(bif eqB a0.ea 1 then(aaC (bE a0.ks 1 100000) λr4=>bif r4 then(bif leB (a0.a8.length:Int) 60 then(aaC (bE a0.tL 0 2147483646) λr5=>some r5) else(some false)) else(some false)) else(some false))) λ(v1:Bool)=>some v1
theorem zE {a0:b5} {r:Bool} (H:mq a0=some r):Fn prog 242 [.agg (lr a0)] [.c (.d (.b r))]:=by
 refine fI func242 ntmps242 ?_
 refine aa H λv1 Hj H=>jR ⟨[(2,tB v1)],[],0⟩ ?_ ?_
 .refine gC Hj ?_ ?_<;>intro H
  .refine aa H λr2 q2 H=>nG (ca (hF:=bA q2)) ?_
   refine gC H ?_ ?_<;>intro H
   .refine gC H ?_ ?_<;>intro H
    .refine aa H λr3 q3 H=>nG (ca (hF:=bA q3)) ?_
     exact ai H
    exact ai H
   exact ai H
  refine gC H ?_ ?_<;>intro H
  .refine aa H λr4 q4 H=>nG (ca (hF:=bA q4)) ?_
   refine gC H ?_ ?_<;>intro H
   .refine gC H ?_ ?_<;>intro H
    .refine aa H λr5 q5 H=>nG (ca (hF:=bA q5)) ?_
     exact ai H
    exact ai H
   exact ai H
  exact ai H
 exact ao H
def ov (a0:ab) (a1:Int):Option Bool:=
 aaC (bE a1 0 (WR ((a0.ah.length:Int)-1))) λr1=>aaC (bif r1 then(aaC (bE a1 0 (WR ((a0.aj.length:Int)-1))) λr3=>some r3) else(some false)) λ(v2:Bool)=>some v2
theorem uZ {a0:ab} {a1:Int} {r:Bool} (H:ov a0 a1=some r):Fn prog 80 [.agg (fC a0),aI a1] [.c (.d (.b r))]:=by
 refine fI func80 ntmps80 ?_
 refine aa H λr1 q1 H=>nA (ca (hF:=bA q1)) ?_
 refine aa H λv2 Hj H=>jR ⟨[(4,tB v2)],[],0⟩ ?_ ?_
 .refine gC Hj ?_ ?_<;>intro H
  .refine aa H λr3 q3 H=>nG (ca (hF:=bA q3)) ?_
   exact ai H
  exact ai H
 exact ao H
def mZ (a0:List bm) (a1:List bm):Int->Option (cK (Int) (Bool))
 |v1=>bif ltB v1 (a0.length:Int) then(aaC (ix a0 v1) λx2=>aaC (ix a1 v1) λx3=>aaC (sx x2.a8 x3.a8) λr4=>bif !r4 then(dn (some false)) else(some (.next (WR (v1+1))))) else(dn (some true))
def sB (a0:List bm) (a1:List bm):Option Bool:=
 bif ltB (a1.length:Int) (a0.length:Int) then(some false) else(iter (mZ a0 a1) FU 0)
theorem Fd {a0:List bm} {a1:List bm} {r:Bool} (H:sB a0 a1=some r):Fn prog 151 [aL (a0.map cg),aL (a1.map cg)] [.c (.d (.b r))]:=by
 refine fI func151 ntmps151 ?_
 refine cC H ?_ ?_<;>intro H
 .exact ao H
 refine iT H (λq=>⟨[(0,.v (.c (.d false (.l (a0.map cg))))),(1,.v (.c (.d false (.l (a1.map cg))))),(12,tI (a0.length:Int)),(13,tI q)],[],0⟩) ?_
 rintro v1 o H
 try dsimp only
 refine wI ?_
 refine cC H ?_ ?_<;>intro H
 .refine dI ?_
  refine aa H λx2 hx2 H=>dA (xdT (enc:=cg) hx2) ?_
  refine aa H λx3 hx3 H=>dA (xdT (enc:=cg) hx3) ?_
  refine aa H λr4 q4 H=>dA (ca (hF:=ya q4)) ?_
  refine wI ?_
  refine cC H ?_ ?_<;>intro H
  .obtain⟨r0,Hd,rfl⟩:=dnE H
   refine mR (λhq=>?_)
   have H:=Hd.trans (congrArg some hq)
   refine wI ?_
   exact ao H
  cases H
  refine eA ?_
  exact wo
 obtain⟨r0,Hd,rfl⟩:=dnE H
 refine et (λhq=>?_)
 have H:=Hd.trans (congrArg some hq)
 refine wI ?_
 exact ao H
def px (a0:ab) (a1:Int):Option Bool:=
 aaC (bE a1 0 (WR ((a0.aB.length:Int)-1))) λr1=>aaC (bif r1 then(aaC (bE a1 0 (WR ((a0.aj.length:Int)-1))) λr3=>some r3) else(some false)) λ(v2:Bool)=>some v2
theorem ye {a0:ab} {a1:Int} {r:Bool} (H:px a0 a1=some r):Fn prog 88 [.agg (fC a0),aI a1] [.c (.d (.b r))]:=by
 refine fI func88 ntmps88 ?_
 refine aa H λr1 q1 H=>nA (ca (hF:=bA q1)) ?_
 refine aa H λv2 Hj H=>jR ⟨[(4,tB v2)],[],0⟩ ?_ ?_
 .refine gC Hj ?_ ?_<;>intro H
  .refine aa H λr3 q3 H=>nG (ca (hF:=bA q3)) ?_
   exact ai H
  exact ai H
 exact ao H
def oN (a0:ae) (a1:Int):Option Int:=
 aaC (Sq a1 0) λr1=>aaC (Md r1 (a0.ax.length:Int)) λr2=>bif it a0.ax 0 r2 then(aaC (tz (a0.ax.take (r2).toNat)) λr3=>some r3) else none
theorem Cf {a0:ae} {a1:Int} {r:Int} (H:oN a0 a1=some r):Fn prog 152 [.agg (cG a0),aI a1] [.c (.d (.i .i64 r))]:=by
 refine fI func152 ntmps152 ?_
 refine dI ?_
 refine aa H λr1 q1 H=>dA (ca (hF:=Mc q1)) ?_
 refine aa H λr2 q2 H=>dA (ca (hF:=HQ q2)) ?_
 obtain⟨h,H⟩:=rq H
 refine dA (Xh (enc:=cg) h (λ_=>rfl) rfl rfl rfl) ?_
 refine aa H λr3 q3 H=>dA (ca (hF:=Cp q3)) ?_
 refine wI ?_
 exact ao H
end Go.AM
