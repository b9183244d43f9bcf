/- A part. -/
import Derived.Test.YtbfpkbncbebapaaGreatS0
set_option linter.unusedVariables false
open Option renaming bind->aaC
namespace Go.AM
open Go.Proofs
open Tryz
attribute [local irreducible] AWN NS AWO AWR AWC DR dO ip
set_option maxRecDepth 100000
set_option maxHeartbeats 40000000
def gG (a0:bV) (a1:Int):Option (Int×bV):=
 bif leB a1 0 then(some (0,a0)) else(bif leB a1 256 then(aaC (sX a0) λr1=>bif !eqB a1 0 then(some (Int.tmod r1.1 a1,r1.2)) else none) else(aaC (sX a0) λr2=>aaC (sX r2.2) λr3=>aaC (sX r3.2) λr4=>bif !eqB a1 0 then(some (Int.tmod (WR ((WR ((WR (r2.1*65536))+(WR (r3.1*256))))+r4.1)) a1,r4.2)) else none))
theorem fU {a0:bV} {a1:Int} {r:Int×bV} (H:gG a0 a1=some r):FnW prog 71 (.var 148 (kM [.f] (eh a0))) [tP 200,tI a1] (.var 148 (kM [.f] (eh r.2))) [.c (.d (.i .i64 r.1))]:=by
 refine fW func71 ntmps71 ?_
 refine cC H ?_ ?_<;>intro H
 .cases H
  exact pf
 refine cC H ?_ ?_<;>intro H
 .refine aa H λr1 q1 H=>sA (cw (o:=200) (ut q1)) ?_
  obtain⟨h,H⟩:=rq H
  refine nA (ir rfl rfl rfl (ne0 h)) ?_
  cases H
  exact pf
 refine aa H λr2 q2 H=>sA (cw (o:=200) (ut q2)) ?_
 refine aa H λr3 q3 H=>sA (cw (o:=200) (ut q3)) ?_
 refine aa H λr4 q4 H=>sA (cw (o:=200) (ut q4)) ?_
 obtain⟨h,H⟩:=rq H
 refine nA (ir rfl rfl rfl (ne0 h)) ?_
 cases H
 exact pf
def nV (a0:aU) (v1:Int) (x2:eY):Int->Option (cK (Int) (cK (Int) (Bool)))
 |v4=>bif ltB v4 (x2.b8.length:Int) then(aaC (ix x2.b8 v4) λx5=>aaC (nX x5 0 (WR ((a0.aZ.length:Int)-1))) λr6=>aaC (bif !r6 then(some true) else(bif eqB x5 v1 then(some true) else(bif ltB 0 v4 then(aaC (ix x2.b8 (WR (v4-1))) λx8=>bif leB x5 x8 then(some true) else(aaC (ix a0.aZ x5) λx9=>aaC (Aq x9.b8 v1) λr10=>some (!r10))) else(aaC (ix a0.aZ x5) λx11=>aaC (Aq x11.b8 v1) λr12=>some (!r12))))) λ(v7:Bool)=>bif v7 then(dn (dn (some false))) else(some (.next (WR (v4+1))))) else(dn (some (.next (WR (v1+1)))))
def nU (a0:aU):Int->Option (cK (Int) (Bool))
 |v1=>bif ltB v1 (a0.aZ.length:Int) then(aaC (ix a0.aZ v1) λx2=>aaC (nX x2.fJ 0 2) λr3=>bif !r3 then(dn (some false)) else(iter (nV a0 v1 x2) FU 0)) else(dn (aaC (nX (a0.aZ.length:Int) 1 6) λr13=>some r13))
def sS (a0:aU):Option Bool:=
 iter (nU a0) FU 0
theorem Fz {a0:aU} {r:Bool} (H:sS a0=some r):Fn prog 133 [.agg (lq a0)] [.c (.d (.b r))]:=by
 refine fI func133 ntmps133 ?_
 refine iT H (λq=>⟨[(1,tP 0),(3,tI q)],[(0,.var 26 [.d false (.l (a0.aZ.map dL))])],1⟩) ?_
 rintro v1 o H
 try dsimp only
 refine wI ?_
 refine cC H ?_ ?_<;>intro H
 .refine aa H λx2 hx2 H=>nA (xdT (enc:=dL) hx2) ?_
  refine aa H λr3 q3 H=>nA (ca (hF:=jL q3)) ?_
  refine cC H ?_ ?_<;>intro H
  .obtain⟨r0,Hd,rfl⟩:=dnE H
   refine mR (λhq=>?_)
   have H:=Hd.trans (congrArg some hq)
   refine wI ?_
   exact ao H
  refine iT H (λq=>⟨[(1,tP 0),(3,tI v1),(4,tP 1),(5,tI q)],[(0,.var 26 [.d false (.l (a0.aZ.map dL))]),(1,.var 158 (kM [.f] (L6 x2)))],2⟩) ?_
  rintro v4 o H
  try dsimp only
  refine wI ?_
  refine cC H ?_ ?_<;>intro H
  .refine aa H λx5 hx5 H=>nA (xdT (enc:=eI) hx5) ?_
   refine aa H λr6 q6 H=>nA (ca (hF:=jL q6)) ?_
   refine aa H λv7 Hj H=>jR ⟨[(1,tP 0),(3,tI v1),(4,tP 1),(5,tI v4),(71,tB v7)],[(0,.var 26 [.d false (.l (a0.aZ.map dL))]),(1,.var 158 (kM [.f] (L6 x2)))],2⟩ ?_ ?_
   .refine gC Hj ?_ ?_<;>intro H
    .exact ai H
    refine gC H ?_ ?_<;>intro H
    .exact ai H
    refine gC H ?_ ?_<;>intro H
    .refine aa H λx8 hx8 H=>nG (xdT (enc:=eI) hx8) ?_
     refine gC H ?_ ?_<;>intro H
     .exact ai H
     refine aa H λx9 hx9 H=>nG (xdT (enc:=dL) hx9) ?_
     refine aa H λr10 q10 H=>nG (ca (hF:=Bv q10)) ?_
     exact ai H
    refine aa H λx11 hx11 H=>nG (xdT (enc:=dL) hx11) ?_
    refine aa H λr12 q12 H=>nG (ca (hF:=Bv q12)) ?_
    exact ai H
   refine cC H ?_ ?_<;>intro H
   .obtain⟨r0,Hd,rfl⟩:=dnE H
    refine mR (λhq=>?_)
    have H:=Hd.trans (congrArg some hq)
    refine wI ?_
    obtain⟨r0,Hd,rfl⟩:=dnE H
    refine mR (λhq=>?_)
    have H:=Hd.trans (congrArg some hq)
    refine wI ?_
    exact ao H
   cases H
   refine eA ?_
   exact wo
  obtain⟨r0,Hd,rfl⟩:=dnE H
  refine et (λhq=>?_)
  have H:=Hd.trans (congrArg some hq)
  refine wI ?_
  cases H
  refine eA ?_
  exact wo
 obtain⟨r0,Hd,rfl⟩:=dnE H
 refine et (λhq=>?_)
 have H:=Hd.trans (congrArg some hq)
 refine wI ?_
 refine aa H λr13 q13 H=>nA (ca (hF:=jL q13)) ?_
 exact ao H
def gM (a0:bz):Int->Option (cK (Int) (Bool))
 |v1=>bif ltB v1 (a0.bv.length:Int) then(aaC (ix a0.bv v1) λx2=>aaC (nX x2 0 3) λr3=>aaC (bif !r3 then(some true) else(bif ltB 0 v1 then(aaC (ix a0.bv (WR (v1-1))) λx5=>aaC (ix a0.bv v1) λx6=>some (leB x6 x5)) else(some false))) λ(v4:Bool)=>bif v4 then(dn (some false)) else(some (.next (WR (v1+1))))) else(dn (aaC (nX a0.jf 1 1000) λr7=>aaC (bif r7 then(aaC (nX a0.jc 1 4) λr9=>bif r9 then(aaC (nX a0.dQ 1 100000) λr10=>some r10) else(some false)) else(some false)) λ(v8:Bool)=>some v8))
def iP (a0:bz):Option Bool:=
 iter (gM a0) FU 0
theorem vi {a0:bz} {r:Bool} (H:iP a0=some r):Fn prog 207 [.agg (kL a0)] [.c (.d (.b r))]:=by
 refine fI func207 ntmps207 ?_
 refine iT H (λq=>⟨[(1,tP 0),(3,tI q)],[(0,.var 59 (kM [.f] (dw a0)))],1⟩) ?_
 rintro v1 o H
 try dsimp only
 refine wI ?_
 refine cC H ?_ ?_<;>intro H
 .refine dI ?_
  refine aa H λx2 hx2 H=>dA (xdT (enc:=eI) hx2) ?_
  refine aa H λr3 q3 H=>dA (ca (hF:=jL q3)) ?_
  refine aa H λv4 Hj H=>jt ⟨[(1,tP 0),(3,tI v1),(35,tB v4)],[(0,.var 59 (kM [.f] (dw a0)))],1⟩ ?_ ?_
  .have H:=Hj
   refine wI ?_
   refine dC H ?_ ?_<;>intro H
   .refine wI ?_
    exact ai H
   refine dC H ?_ ?_<;>intro H
   .refine aa H λx5 hx5 H=>dG (xdT (enc:=eI) hx5) ?_
    refine aa H λx6 hx6 H=>dG (xdT (enc:=eI) hx6) ?_
    refine wI ?_
    exact ai H
   refine wI ?_
   exact ai H
  refine wI ?_
  refine cC H ?_ ?_<;>intro H
  .refine wI ?_
   obtain⟨r0,Hd,rfl⟩:=dnE H
   refine mR (λhq=>?_)
   have H:=Hd.trans (congrArg some hq)
   refine wI ?_
   exact ao H
  refine wI ?_
  cases H
  refine eA ?_
  exact wo
 obtain⟨r0,Hd,rfl⟩:=dnE H
 refine et (λhq=>?_)
 have H:=Hd.trans (congrArg some hq)
 refine wI ?_
 refine aa H λr7 q7 H=>nA (ca (hF:=jL q7)) ?_
 refine aa H λv8 Hj H=>jR ⟨[(2,tB v8)],[],0⟩ ?_ ?_
 .refine gC Hj ?_ ?_<;>intro H
  .refine aa H λr9 q9 H=>nG (ca (hF:=jL q9)) ?_
   refine gC H ?_ ?_<;>intro H
   .refine aa H λr10 q10 H=>nG (ca (hF:=jL q10)) ?_
    exact ai H
   exact ai H
  exact ai H
 exact ao H
def sR (a0:Int):Option Bool:=
 aaC (nX a0 1 2147483646) λr1=>some r1
theorem Fy {a0:Int} {r:Bool} (H:sR a0=some r):Fn prog 265 [aI a0] [.c (.d (.b r))]:=by
 refine fI func265 ntmps265 ?_
 refine aa H λr1 q1 H=>nA (ca (hF:=jL q1)) ?_
 exact ao H
def iO (a0:du):Option Bool:=
 aaC (nX a0.d8 0 3) λr1=>aaC (bif r1 then(aaC (nX a0.bI 0 99) λr3=>some r3) else(some false)) λ(v2:Bool)=>some v2
theorem vh {a0:du} {r:Bool} (H:iO a0=some r):Fn prog 318 [.agg (qZ a0)] [.c (.d (.b r))]:=by
 refine fI func318 ntmps318 ?_
 refine aa H λr1 q1 H=>nA (ca (hF:=jL q1)) ?_
 refine aa H λv2 Hj H=>jR ⟨[(2,tB v2)],[],0⟩ ?_ ?_
 .refine gC Hj ?_ ?_<;>intro H
  .refine aa H λr3 q3 H=>nG (ca (hF:=jL q3)) ?_
   exact ai H
  exact ai H
 exact ao H
def sV (a0:aP) (a1:bz) (a2:Int):Option ae:=
 aaC (uy a1) λr1=>some {qO with be:=a0,gT:=r1,aq:=(⟨1,[]⟩:bh),bC:={IV with aC:=a2}}
theorem FB {a0:aP} {a1:bz} {a2:Int} {r:ae} (H:sV a0 a1 a2=some r):Fn prog 211 [.agg (cE a0),.agg (kL a1),aI a2] [.agg (qM [.o,.z,.z] (cW r))]:=by
 refine fI func211 ntmps211 ?_
 refine zI (List.range 8) ?_
 refine aa H λr1 q1 H=>zA (ca (hF:=EO q1)) ?_
 refine wA (spx 100027) ?_
 exact ao H
def sT (a0:Int):Option av:=
 aaC (nX a0 0 100000) λr1=>aaC (bif !r1 then(some 0) else(some a0)) λ(v2:Int)=>some {jn with iz:=v2,bK:=v2}
theorem FA {a0:Int} {r:av} (H:sT a0=some r):Fn prog 212 [aI a0] [.agg (qM [.z] (cT r))]:=by
 refine fI func212 ntmps212 ?_
 refine aa H λr1 q1 H=>nA (ca (hF:=jL q1)) ?_
 refine aa H λv2 Hj H=>jA ⟨[(0,tI v2),(2,tP 0)],[(0,.var 89 (kM [.z] (cT jn)))],1⟩ ?_ ?_
 .refine cC Hj ?_ ?_<;>intro H
  .exact ai H
  exact ai H
 exact ao H
def vr (a0:bh):Option bh:=
 aaC (ux a0.aD) λr1=>some (⟨a0.bb,r1⟩:bh)
theorem IA {a0:bh} {r:bh} (H:vr a0=some r):Fn prog 275 [.agg (lu a0)] [.agg (qM [.o] (fm r))]:=by
 refine fI func275 ntmps275 ?_
 refine zI (List.range 7) ?_
 refine aa H λr1 q1 H=>zA (ca (hF:=B6 q1)) ?_
 refine wA (spx 100074) ?_
 exact ao H
def B4 (a1:Int):(Int×List Int×bV)->Option (cK (Int×List Int×bV) (List Int×bV))
 |(v1,v5,v6)=>bif ltB v1 a1 then(aaC (sX v6) λr13=>bif em 1 (v5++[IntKind.u8.wrap (r13.1)]).length then(some (.next (WR (v1+1),(v5++[IntKind.u8.wrap (r13.1)]),r13.2))) else none) else(some (.done (v5,v6)))
def As (a0:bV) (a1:Int):Option (List Int×bV):=
 aaC (iter (B4 a1) FU (0,([]:List Int),a0)) λ((v11,v12):List Int×bV)=>some (v11,v12)
theorem MO {a0:bV} {a1:Int} {r:List Int×bV} (H:As a0 a1=some r):FnW prog 140 (.var 148 (kM [.f] (eh a0))) [tP 200,tI a1] (.var 148 (kM [.f] (eh r.2))) [.c (.own 5 1 (r.1.map eU8) r.1.length)]:=by
 refine fW func140 ntmps140 ?_
 obtain⟨⟨v11,v12⟩,Hj,H⟩:=ob H
 refine jB ⟨[(5,.v (.c (.w 210 v11.length)))],[(200,.var 148 (kM [.f] (eh v12))),(210,w5 v11)],211⟩ ?_ ?_
 .refine iT Hj (λq=>⟨[(0,tP 200),(1,tI a1),(5,.v (.c (.w 210 q.2.1.length))),(6,tI q.1)],[(200,.var 148 (kM [.f] (eh q.2.2))),(210,w5 q.2.1)],211⟩) ?_
  rintro⟨v1,v5,v6⟩ o H
  try dsimp only
  refine wI ?_
  refine cC H ?_ ?_<;>intro H
  .refine aa H λr13 q13 H=>sA (cw (o:=200) (ut q13)) ?_
   obtain⟨h,H⟩:=rq H
   refine sA (apT (enc:=eU8) (ys:=v5) (zs:=[IntKind.u8.wrap (r13.1)]) h) ?_
   cases H
   refine eA ?_
   exact wo
  cases H
  refine et (λhq=>?_)
  cases hq
  refine wI ?_
  exact wo
 cases H
 exact pf
def Av (a0:aX):Option aX:=
 aaC (ux a0.aO) λr1=>aaC (rR a0.bj) λr2=>some (⟨a0.bb,r1,r2⟩:aX)
theorem MS {a0:aX} {r:aX} (H:Av a0=some r):Fn prog 276 [.agg (jM a0)] [.agg (qM [.o,.o] (cH r))]:=by
 refine fI func276 ntmps276 ?_
 refine zI (List.range 10) ?_
 refine aa H λr1 q1 H=>zA (ca (hF:=B6 q1)) ?_
 refine aa H λr2 q2 H=>zA (ca (hF:=Ar q2)) ?_
 refine wA (spx 100078) ?_
 exact ao H
def vu (a0:a9):Option a9:=
 aaC (Aw a0.b6) λr1=>some {a0 with b6:=r1}
theorem IC {a0:a9} {r:a9} (H:vu a0=some r):Fn prog 221 [.agg (eH a0)] [.agg (qM [.o] (tV r))]:=by
 refine fI func221 ntmps221 ?_
 refine aa H λr1 q1 H=>nA (ca (hF:=MU q1)) ?_
 exact ao H
def sMax (a0:Int) (a1:Int):Option Int:=
 bif ltB a0 a1 then(some a1) else(some a0)
def oZ (a0:dh):Option Bool:=
 aaC (bif leB 0 a0.aC then(aaC (nX a0.cB 0 100000) λr2=>bif r2 then(aaC (nX a0.d4 0 a0.cB) λr3=>some r3) else(some false)) else(some false)) λ(v1:Bool)=>some v1
theorem Cy {a0:dh} {r:Bool} (H:oZ a0=some r):Fn prog 154 [.agg (sj a0)] [.c (.d (.b r))]:=by
 refine fI func154 ntmps154 ?_
 refine aa H λv1 Hj H=>jR ⟨[(2,tB v1)],[],0⟩ ?_ ?_
 .refine gC Hj ?_ ?_<;>intro H
  .refine aa H λr2 q2 H=>nG (ca (hF:=jL q2)) ?_
   refine gC H ?_ ?_<;>intro H
   .refine aa H λr3 q3 H=>nG (ca (hF:=jL q3)) ?_
    exact ai H
   exact ai H
  exact ai H
 exact ao H
def jU (a0:aU) (a1:Int):(Int×List Int)->Option (cK (Int×List Int) (List Int))
 |(v1,v2)=>bif ltB v1 (a0.aZ.length:Int) then(aaC (ix a0.aZ v1) λx6=>aaC (bif eqB x6.fJ a1 then(bif em 8 (v2++[v1]).length then(some (v2++[v1])) else none) else(some v2)) λ(v7:List Int)=>some (.next (WR (v1+1),v7))) else(some (.done v2))
def Ai (a0:aU) (a1:Int):Option (List Int):=
 aaC (iter (jU a0 a1) FU (0,([]:List Int))) λ(v5:List Int)=>some v5
def OZ (a0:ab) (a1:Int):Option Bool:=
 aaC (MG (a0.ah.length:Int) (a0.aj.length:Int)) λr1=>aaC (nX a1 0 (WR (r1-1))) λr2=>some r2
def hO (a0:ae) (a1:Int):(Int×Int)->Option (cK (Int×Int) (Int))
 |(v1,v2)=>aaC (bif ltB v2 (a0.ax.length:Int) then(some (ltB v2 a1)) else(some false)) λ(v6:Bool)=>bif v6 then(aaC (ix a0.ax v2) λx7=>some (.next (WR (v1+(x7.a8.length:Int)),WR (v2+1)))) else(some (.done v1))
def oX (a0:ae) (a1:Int):Option Int:=
 aaC (iter (hO a0 a1) FU (0,0)) λ(v5:Int)=>some v5
theorem Cv {a0:ae} {a1:Int} {r:Int} (H:oX a0 a1=some r):Fn prog 37 [.agg (cG a0),aI a1] [.c (.d (.i .i64 r))]:=by
 refine fI func37 ntmps37 ?_
 refine aa H λv5 Hj H=>jB ⟨[(5,tI v5)],[],0⟩ ?_ ?_
 .refine iT Hj (λq=>⟨[(1,tI a1),(2,tP 0),(5,tI q.1),(6,tI q.2)],[(0,.var 69 (kM [.f,.f,.f] (cW a0)))],1⟩) ?_
  rintro⟨v1,v2⟩ o H
  try dsimp only
  refine wI ?_
  refine aa H λv6 Hj H=>jR ⟨[(1,tI a1),(2,tP 0),(5,tI v1),(6,tI v2),(16,tB v6)],[(0,.var 69 (kM [.f,.f,.f] (cW a0)))],1⟩ ?_ ?_
  .refine gC Hj ?_ ?_<;>intro H
   .exact ai H
   exact ai H
  refine cC H ?_ ?_<;>intro H
  .refine aa H λx7 hx7 H=>nA (xdT (enc:=cg) hx7) ?_
   cases H
   refine eA ?_
   exact wo
  cases H
  refine et (λhq=>?_)
  cases hq
  refine wI ?_
  exact wo
 exact ao H
def pG (a0:ab) (a1:Int):Option Bool:=
 aaC (MG (a0.aB.length:Int) (a0.aj.length:Int)) λr1=>aaC (nX a1 0 (WR (r1-1))) λr2=>some r2
theorem yq {a0:ab} {a1:Int} {r:Bool} (H:pG a0 a1=some r):Fn prog 77 [.agg (fC a0),aI a1] [.c (.d (.b r))]:=by
 refine fI func77 ntmps77 ?_
 refine aa H λr1 q1 H=>nA (ca (hF:=Yj q1)) ?_
 refine aa H λr2 q2 H=>nA (ca (hF:=jL q2)) ?_
 exact ao H
end Go.AM
