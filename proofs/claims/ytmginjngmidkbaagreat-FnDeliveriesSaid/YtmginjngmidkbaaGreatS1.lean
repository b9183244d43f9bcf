/- A part. -/
import Derived.Test.YtmginjngmidkbaaGreatS0
set_option linter.unusedVariables false
open Option renaming bind->abU
namespace Go.AM
open Go.Proofs
open Tryz
attribute [local irreducible] AWN NS AWO AWR AWC DR ea gL
set_option maxRecDepth 100000
set_option maxHeartbeats 40000000
variable {a1:Int} {r:Bool}
def cI (a0:bm) (a1:Int):Option (Int×bm):=
 bif leB a1 0 then(some (0,a0)) else(bif leB a1 256 then(abU (ug a0) λr1=>bif !eqB a1 0 then(some (Int.tmod r1.1 a1,r1.2)) else none) else(abU (ug a0) λr2=>abU (ug r2.2) λr3=>abU (ug r3.2) λr4=>bif !eqB a1 0 then(some (Int.tmod (WR ((WR ((WR (r2.1*65536))+(WR (r3.1*256))))+r4.1)) a1,r4.2)) else none))
theorem cp {a0:bm} {r:Int×bm} (H:cI a0 a1=some r):FnW prog 113 (.var 135 (kM [.f] (ci a0))) [tP 200,tI a1] (.var 135 (kM [.f] (ci r.2))) [.c (.d (.i .i64 r.1))]:=by
 refine fW func113 ntmps113 ?_
 refine cC H ?_ ?_<;>intro H
 .cases H
  exact f4
 refine cC H ?_ ?_<;>intro H
 .refine aa H λr1 q1 H=>sA (cw (o:=200) (vK q1)) ?_
  obtain⟨h,H⟩:=rq H
  refine nA (ir rfl rfl rfl (ne0 h)) ?_
  cases H
  exact f4
 refine aa H λr2 q2 H=>sA (cw (o:=200) (vK q2)) ?_
 refine aa H λr3 q3 H=>sA (cw (o:=200) (vK q3)) ?_
 refine aa H λr4 q4 H=>sA (cw (o:=200) (vK q4)) ?_
 obtain⟨h,H⟩:=rq H
 refine nA (ir rfl rfl rfl (ne0 h)) ?_
 cases H
 exact f4
def oJ (a0:aS) (v1:Int) (x2:fr):Int->Option (cq (Int) (cq (Int) (Bool)))
 |v4=>bif ltB v4 (x2.cr.length:Int) then(abU (ix x2.cr v4) λx5=>abU (dB x5 0 (WR ((a0.aX.length:Int)-1))) λr6=>abU (bif !r6 then(some true) else(bif eqB x5 v1 then(some true) else(bif ltB 0 v4 then(abU (ix x2.cr (WR (v4-1))) λx8=>bif leB x5 x8 then(some true) else(abU (ix a0.aX x5) λx9=>abU (CJ x9.cr v1) λr10=>some (!r10))) else(abU (ix a0.aX x5) λx11=>abU (CJ x11.cr v1) λr12=>some (!r12))))) λ(v7:Bool)=>bif v7 then(dn (dn (some false))) else(some (.next (WR (v4+1))))) else(dn (some (.next (WR (v1+1)))))
def oI (a0:aS):Int->Option (cq (Int) (Bool))
 |v1=>bif ltB v1 (a0.aX.length:Int) then(abU (ix a0.aX v1) λx2=>abU (dB x2.fJ 0 2) λr3=>bif !r3 then(dn (some false)) else(iter (oJ a0 v1 x2) FU 0)) else(dn (abU (dB (a0.aX.length:Int) 1 6) λr13=>some r13))
def qq (a0:aS):Option Bool:=
 iter (oI a0) FU 0
theorem AH {a0:aS} (H:qq a0=some r):Fn prog 120 [.agg (iw a0)] [.c (.d (.b r))]:=by
 refine fI func120 ntmps120 ?_
 refine iT H (λq=>⟨[(1,tP 0),(3,tI q)],[(0,.var 26 [.d false (.l (a0.aX.map dy))])],1⟩) ?_
 rintro v1 o H
 refine ad ?_
 refine cC H ?_ ?_<;>intro H
 .refine aa H λx2 hx2 H=>nA (xdT (enc:=dy) hx2) ?_
  refine aa H λr3 q3 H=>nA (ca (hF:=cm q3)) ?_
  refine cC H ?_ ?_<;>intro H
  .exact aQ H
  refine iT H (λq=>⟨[(1,tP 0),(3,tI v1),(4,tP 1),(5,tI q)],[(0,.var 26 [.d false (.l (a0.aX.map dy))]),(1,.var 147 (kM [.f] (Od x2)))],2⟩) ?_
  rintro v4 o H
  refine ad ?_
  refine cC H ?_ ?_<;>intro H
  .refine aa H λx5 hx5 H=>nA (xdT (enc:=eI) hx5) ?_
   refine aa H λr6 q6 H=>nA (ca (hF:=cm q6)) ?_
   refine aa H λv7 Hj H=>jR ⟨[(1,tP 0),(3,tI v1),(4,tP 1),(5,tI v4),(71,tB v7)],[(0,.var 26 [.d false (.l (a0.aX.map dy))]),(1,.var 147 (kM [.f] (Od x2)))],2⟩ ?_ ?_
   .refine gC Hj ?_ ?_<;>intro H
    .exact ai H
    refine gC H ?_ ?_<;>intro H
    .exact ai H
    refine gC H ?_ ?_<;>intro H
    .refine aa H λx8 hx8 H=>nG (xdT (enc:=eI) hx8) ?_
     refine gC H ?_ ?_<;>intro H
     .exact ai H
     refine aa H λx9 hx9 H=>nG (xdT (enc:=dy) hx9) ?_
     refine aa H λr10 q10 H=>nG (ca (hF:=D3 q10)) ?_
     exact ai H
    refine aa H λx11 hx11 H=>nG (xdT (enc:=dy) hx11) ?_
    refine aa H λr12 q12 H=>nG (ca (hF:=D3 q12)) ?_
    exact ai H
   refine cC H ?_ ?_<;>intro H
   .refine aR H λH=>?_
    exact aQ H
   exact aN H
  refine aR H λH=>?_
  exact aN H
 refine aR H λH=>?_
 refine aa H λr13 q13 H=>nA (ca (hF:=cm q13)) ?_
 exact ao H
def gV (a0:bD):Int->Option (cq (Int) (Bool))
 |v1=>bif ltB v1 (a0.bC.length:Int) then(abU (ix a0.bC v1) λx2=>abU (dB x2 0 3) λr3=>abU (bif !r3 then(some true) else(bif ltB 0 v1 then(abU (ix a0.bC (WR (v1-1))) λx5=>abU (ix a0.bC v1) λx6=>some (leB x6 x5)) else(some false))) λ(v4:Bool)=>bif v4 then(dn (some false)) else(some (.next (WR (v1+1))))) else(dn (abU (dB a0.iv 1 1000) λr7=>abU (bif r7 then(abU (dB a0.iu 1 4) λr9=>bif r9 then(abU (dB a0.eg 1 100000) λr10=>some r10) else(some false)) else(some false)) λ(v8:Bool)=>some v8))
def gQ (a0:bD):Option Bool:=
 iter (gV a0) FU 0
theorem oN {a0:bD} (H:gQ a0=some r):Fn prog 244 [.agg (iA a0)] [.c (.d (.b r))]:=by
 refine fI func244 ntmps244 ?_
 refine iT H (λq=>⟨[(1,tP 0),(3,tI q)],[(0,.var 65 (kM [.f] (dX a0)))],1⟩) ?_
 rintro v1 o H
 refine ad ?_
 refine cC H ?_ ?_<;>intro H
 .refine dI ?_
  refine aa H λx2 hx2 H=>dA (xdT (enc:=eI) hx2) ?_
  refine aa H λr3 q3 H=>dA (ca (hF:=cm q3)) ?_
  refine aa H λv4 Hj H=>fA ⟨[(1,tP 0),(3,tI v1),(35,tB v4)],[(0,.var 65 (kM [.f] (dX a0)))],1⟩ ?_ ?_
  .have H:=Hj
   refine wI ?_
   refine dC H ?_ ?_<;>intro H
   .refine wI ?_
    exact ai H
   refine dC H ?_ ?_<;>intro H
   .refine aa H λx5 hx5 H=>dG (xdT (enc:=eI) hx5) ?_
    refine aa H λx6 hx6 H=>dG (xdT (enc:=eI) hx6) ?_
    refine wI ?_
    exact ai H
   refine wI ?_
   exact ai H
  refine wI ?_
  refine cC H ?_ ?_<;>intro H
  .refine wI ?_
   exact aQ H
  refine wI ?_
  exact aN H
 refine aR H λH=>?_
 refine aa H λr7 q7 H=>nA (ca (hF:=cm q7)) ?_
 refine aa H λv8 Hj H=>jR ⟨[(2,tB v8)],[],0⟩ ?_ ?_
 .refine gC Hj ?_ ?_<;>intro H
  .refine aa H λr9 q9 H=>nG (ca (hF:=cm q9)) ?_
   refine gC H ?_ ?_<;>intro H
   .refine aa H λr10 q10 H=>nG (ca (hF:=cm q10)) ?_
    exact ai H
   exact ai H
  exact ai H
 exact ao H
def im (a0:Int):Option Bool:=
 abU (dB a0 1 2147483646) λr1=>some r1
theorem jg {a0:Int} (H:im a0=some r):Fn prog 280 [aI a0] [.c (.d (.b r))]:=by
 refine fI func280 ntmps280 ?_
 refine aa H λr1 q1 H=>nA (ca (hF:=cm q1)) ?_
 exact ao H
def gP (a0:dD):Option Bool:=
 abU (dB a0.dN 0 3) λr1=>abU (bif r1 then(abU (dB a0.bL 0 99) λr3=>some r3) else(some false)) λ(v2:Bool)=>some v2
theorem oL {a0:dD} (H:gP a0=some r):Fn prog 332 [.agg (nT a0)] [.c (.d (.b r))]:=by
 refine fI func332 ntmps332 ?_
 refine aa H λr1 q1 H=>nA (ca (hF:=cm q1)) ?_
 refine aa H λv2 Hj H=>jR ⟨[(2,tB v2)],[],0⟩ ?_ ?_
 .refine gC Hj ?_ ?_<;>intro H
  .refine aa H λr3 q3 H=>nG (ca (hF:=cm q3)) ?_
   exact ai H
  exact ai H
 exact ao H
def tZ (a0:aP) (a1:bD) (a2:Int):Option ah:=
 abU (vP a1) λr1=>some {rZ with bA:=a0,gF:=r1,ax:=(⟨1,[]⟩:aY),bT:={C0 with aG:=a2}}
theorem Iz {a0:aP} {a1:bD} {a2:Int} {r:ah} (H:tZ a0 a1 a2=some r):Fn prog 247 [.agg (cQ a0),.agg (iA a1),aI a2] [.agg (qM [.o,.z,.z] (ct r))]:=by
 refine fI func247 ntmps247 ?_
 refine zI (List.range 8) ?_
 refine aa H λr1 q1 H=>zA (ca (hF:=HH q1)) ?_
 refine wA (spx 100027) ?_
 exact ao H
def tX (a0:Int):Option am:=
 abU (dB a0 0 100000) λr1=>abU (bif !r1 then(some 0) else(some a0)) λ(v2:Int)=>some {lW with fw:=v2,bJ:=v2}
theorem Iy {a0:Int} {r:am} (H:tX a0=some r):Fn prog 248 [aI a0] [.agg (qM [.z] (cZ r))]:=by
 refine fI func248 ntmps248 ?_
 refine aa H λr1 q1 H=>nA (ca (hF:=cm q1)) ?_
 refine aa H λv2 Hj H=>jA ⟨[(0,tI v2),(2,tP 0)],[(0,.var 57 (kM [.z] (cZ lW)))],1⟩ ?_ ?_
 .exact az Hj
 exact ao H
def nn (a0:aY):Option aY:=
 abU (vM a0.aw) λr1=>some (⟨a0.bB,r1⟩:aY)
theorem lU {a0:aY} {r:aY} (H:nn a0=some r):Fn prog 258 [.agg (gz a0)] [.agg (qM [.o] (dE r))]:=by
 refine fI func258 ntmps258 ?_
 refine zI (List.range 7) ?_
 refine aa H λr1 q1 H=>zA (ca (hF:=EC q1)) ?_
 refine wA (spx 100074) ?_
 exact ao H
def EA (a1:Int):(Int×List Int×bm)->Option (cq (Int×List Int×bm) (List Int×bm))
 |(v1,v5,v6)=>bif ltB v1 a1 then(abU (ug v6) λr13=>bif c8 1 (v5++[IntKind.u8.wrap (r13.1)]).length then(some (.next (WR (v1+1),(v5++[IntKind.u8.wrap (r13.1)]),r13.2))) else none) else(some (.done (v5,v6)))
def zm (a0:bm) (a1:Int):Option (List Int×bm):=
 abU (iter (EA a1) FU (0,([]:List Int),a0)) λ((v11,v12):List Int×bm)=>some (v11,v12)
theorem HC {a0:bm} {r:List Int×bm} (H:zm a0 a1=some r):FnW prog 179 (.var 135 (kM [.f] (ci a0))) [tP 200,tI a1] (.var 135 (kM [.f] (ci r.2))) [.c (.own 5 1 (r.1.map eU8) r.1.length)]:=by
 refine fW func179 ntmps179 ?_
 obtain⟨⟨v11,v12⟩,Hj,H⟩:=ob H
 refine jB ⟨[(5,.v (.c (.w 210 v11.length)))],[(200,.var 135 (kM [.f] (ci v12))),(210,w5 v11)],211⟩ ?_ ?_
 .refine iT Hj (λq=>⟨[(0,tP 200),(1,tI a1),(5,.v (.c (.w 210 q.2.1.length))),(6,tI q.1)],[(200,.var 135 (kM [.f] (ci q.2.2))),(210,w5 q.2.1)],211⟩) ?_
  rintro⟨v1,v5,v6⟩ o H
  refine ad ?_
  refine cC H ?_ ?_<;>intro H
  .refine aa H λr13 q13 H=>sA (cw (o:=200) (vK q13)) ?_
   obtain⟨h,H⟩:=rq H
   refine sA (apT (enc:=eU8) (ys:=v5) (zs:=[IntKind.u8.wrap (r13.1)]) h) ?_
   exact aN H
  exact aE H
 cases H
 exact f4
def zn (a0:aO):Option aO:=
 abU (vM a0.aC) λr1=>abU (s3 a0.bi) λr2=>some (⟨a0.bB,r1,r2⟩:aO)
theorem HE {a0:aO} {r:aO} (H:zn a0=some r):Fn prog 255 [.agg (fK a0)] [.agg (qM [.o,.o] (bH r))]:=by
 refine fI func255 ntmps255 ?_
 refine zI (List.range 10) ?_
 refine aa H λr1 q1 H=>zA (ca (hF:=EC q1)) ?_
 refine aa H λr2 q2 H=>zA (ca (hF:=CK q2)) ?_
 refine wA (spx 100078) ?_
 exact ao H
def s9 (a0:bF):Option bF:=
 abU (CO a0.cz) λr1=>some {a0 with cz:=r1}
theorem CR {a0:bF} {r:bF} (H:s9 a0=some r):Fn prog 187 [.agg (dr a0)] [.agg (qM [.o] (jt r))]:=by
 refine fI func187 ntmps187 ?_
 refine aa H λr1 q1 H=>nA (ca (hF:=O4 q1)) ?_
 exact ao H
def lQ (a0:bN):Option Bool:=
 abU (dB a0.fo 1 6) λr1=>abU (bif r1 then(bif leB 0 a0.fo then(abU (dB a0.fj 0 (WR ((lJ .i64 1 a0.fo)-1))) λr3=>some r3) else none) else(some false)) λ(v2:Bool)=>some v2
theorem sT {a0:bN} (H:lQ a0=some r):Fn prog 121 [.agg (nR a0)] [.c (.d (.b r))]:=by
 refine fI func121 ntmps121 ?_
 refine dI ?_
 refine aa H λr1 q1 H=>dA (ca (hF:=cm q1)) ?_
 refine aa H λv2 Hj H=>fA ⟨[(2,tB v2)],[],0⟩ ?_ ?_
 .have H:=Hj
  refine wI ?_
  refine dC H ?_ ?_<;>intro H
  .obtain⟨h,H⟩:=rq H
   refine dG (Ig h rfl rfl rfl rfl) ?_
   refine aa H λr3 q3 H=>dG (ca (hF:=cm q3)) ?_
   refine wI ?_
   exact ai H
  refine wI ?_
  exact ai H
 refine wI ?_
 exact ao H
def ic (a0:aO):Int->Option (cq (Int) (Bool))
 |v9=>bif ltB v9 (a0.bi.length:Int) then(abU (ix a0.bi v9) λx10=>bif ltB 60 (x10.bg.length:Int) then(dn (some false)) else(some (.next (WR (v9+1))))) else(dn (abU (bif eqB a0.bB (WR ((a0.bi.length:Int)+1)) then(bif leB (a0.bi.length:Int) 24 then(some (leB (a0.aC.length:Int) 8)) else(some false)) else(some false)) λ(v11:Bool)=>some v11))
def jn (a0:aO):Int->Option (cq (Int) (Bool))
 |v1=>bif ltB v1 (a0.aC.length:Int) then(abU (ix a0.aC v1) λx2=>abU (dB x2.cV (WR (a0.bB+1)) (WR ((WR (a0.bB+8))-1))) λr3=>abU (bif !r3 then(some true) else(bif ltB 0 v1 then(abU (ix a0.aC (WR (v1-1))) λx5=>abU (ix a0.aC v1) λx6=>bif leB x6.cV x5.cV then(some true) else(abU (ix a0.aC v1) λx7=>some (ltB 60 (x7.bg.length:Int)))) else(abU (ix a0.aC v1) λx8=>some (ltB 60 (x8.bg.length:Int))))) λ(v4:Bool)=>bif v4 then(dn (some false)) else(some (.next (WR (v1+1))))) else(dn (iter (ic a0) FU 0))
def jF (a0:aO):Option Bool:=
 iter (jn a0) FU 0
theorem sU {a0:aO} (H:jF a0=some r):Fn prog 282 [.agg (fK a0)] [.c (.d (.b r))]:=by
 refine fI func282 ntmps282 ?_
 refine iT H (λq=>⟨[(1,tP 0),(3,tI q)],[(0,.var 91 (kM [.f,.f] (bH a0)))],1⟩) ?_
 rintro v1 o H
 refine ad ?_
 refine cC H ?_ ?_<;>intro H
 .refine dI ?_
  refine aa H λx2 hx2 H=>dA (xdT (enc:=an) hx2) ?_
  refine aa H λr3 q3 H=>dA (ca (hF:=cm q3)) ?_
  refine aa H λv4 Hj H=>fA ⟨[(1,tP 0),(3,tI v1),(56,tB v4)],[(0,.var 91 (kM [.f,.f] (bH a0)))],1⟩ ?_ ?_
  .have H:=Hj
   refine wI ?_
   refine dC H ?_ ?_<;>intro H
   .refine wI ?_
    exact ai H
   refine dC H ?_ ?_<;>intro H
   .refine aa H λx5 hx5 H=>dG (xdT (enc:=an) hx5) ?_
    refine aa H λx6 hx6 H=>dG (xdT (enc:=an) hx6) ?_
    refine dC H ?_ ?_<;>intro H
    .refine wI ?_
     exact ai H
    refine aa H λx7 hx7 H=>dG (xdT (enc:=an) hx7) ?_
    refine wI ?_
    exact ai H
   refine aa H λx8 hx8 H=>dG (xdT (enc:=an) hx8) ?_
   refine wI ?_
   exact ai H
  refine wI ?_
  refine cC H ?_ ?_<;>intro H
  .refine wI ?_
   exact aQ H
  refine wI ?_
  exact aN H
 refine aR H λH=>?_
 refine iT H (λq=>⟨[(1,tP 0),(4,tI q)],[(0,.var 91 (kM [.f,.f] (bH a0)))],1⟩) ?_
 rintro v9 o H
 refine ad ?_
 refine cC H ?_ ?_<;>intro H
 .refine aa H λx10 hx10 H=>nA (xdT (enc:=da) hx10) ?_
  refine cC H ?_ ?_<;>intro H
  .exact aQ H
  exact aN H
 refine aR H λH=>?_
 refine aa H λv11 Hj H=>jR ⟨[(2,tB v11)],[],0⟩ ?_ ?_
 .exact az Hj
 exact ao H
def ip (a0:cX):Option Bool:=
 abU (bif leB 0 a0.aG then(abU (dB a0.cG 0 100000) λr2=>bif r2 then(abU (dB a0.ev 0 a0.cG) λr3=>some r3) else(some false)) else(some false)) λ(v1:Bool)=>some v1
theorem ko {a0:cX} (H:ip a0=some r):Fn prog 132 [.agg (pK a0)] [.c (.d (.b r))]:=by
 refine fI func132 ntmps132 ?_
 refine aa H λv1 Hj H=>jR ⟨[(2,tB v1)],[],0⟩ ?_ ?_
 .refine gC Hj ?_ ?_<;>intro H
  .refine aa H λr2 q2 H=>nG (ca (hF:=cm q2)) ?_
   refine gC H ?_ ?_<;>intro H
   .refine aa H λr3 q3 H=>nG (ca (hF:=cm q3)) ?_
    exact ai H
   exact ai H
  exact ai H
 exact ao H
def oK (a0:cR):Option Bool:=
 abU (dB a0.fJ 0 2) λr1=>abU (bif r1 then(abU (dB a0.eQ 0 4) λr3=>bif r3 then(abU (dB a0.eU 0 3) λr4=>some r4) else(some false)) else(some false)) λ(v2:Bool)=>some v2
theorem DJ {a0:cR} (H:oK a0=some r):Fn prog 284 [.agg (uG a0)] [.c (.d (.b r))]:=by
 refine fI func284 ntmps284 ?_
 refine aa H λr1 q1 H=>nA (ca (hF:=cm q1)) ?_
 refine aa H λv2 Hj H=>jR ⟨[(2,tB v2)],[],0⟩ ?_ ?_
 .refine gC Hj ?_ ?_<;>intro H
  .refine aa H λr3 q3 H=>nG (ca (hF:=cm q3)) ?_
   refine gC H ?_ ?_<;>intro H
   .refine aa H λr4 q4 H=>nG (ca (hF:=cm q4)) ?_
    exact ai H
   exact ai H
  exact ai H
 exact ao H
def kU (a0:aY):Int->Option (cq (Int) (Bool))
 |v1=>bif ltB v1 (a0.aw.length:Int) then(abU (ix a0.aw v1) λx2=>abU (bif !eqB x2.cV (WR ((WR (a0.bB-(a0.aw.length:Int)))+v1)) then(some true) else(abU (ix a0.aw v1) λx4=>some (ltB 60 (x4.bg.length:Int)))) λ(v3:Bool)=>bif v3 then(dn (some false)) else(some (.next (WR (v1+1))))) else(dn (abU (dB a0.bB 1 100000) λr5=>abU (bif r5 then(bif leB (a0.aw.length:Int) 8 then(some (leB 1 (WR (a0.bB-(a0.aw.length:Int))))) else(some false)) else(some false)) λ(v6:Bool)=>some v6))
def lC (a0:aY):Option Bool:=
 iter (kU a0) FU 0
theorem pE {a0:aY} (H:lC a0=some r):Fn prog 333 [.agg (gz a0)] [.c (.d (.b r))]:=by
 refine fI func333 ntmps333 ?_
 refine iT H (λq=>⟨[(1,tP 0),(3,tI q)],[(0,.var 71 (kM [.f] (dE a0)))],1⟩) ?_
 rintro v1 o H
 refine ad ?_
 refine cC H ?_ ?_<;>intro H
 .refine dI ?_
  refine aa H λx2 hx2 H=>dA (xdT (enc:=an) hx2) ?_
  refine aa H λv3 Hj H=>fA ⟨[(1,tP 0),(3,tI v1),(35,tB v3)],[(0,.var 71 (kM [.f] (dE a0)))],1⟩ ?_ ?_
  .have H:=Hj
   refine wI ?_
   refine dC H ?_ ?_<;>intro H
   .refine wI ?_
    exact ai H
   refine aa H λx4 hx4 H=>dG (xdT (enc:=an) hx4) ?_
   refine wI ?_
   exact ai H
  refine wI ?_
  refine cC H ?_ ?_<;>intro H
  .refine wI ?_
   exact aQ H
  refine wI ?_
  exact aN H
 refine aR H λH=>?_
 refine aa H λr5 q5 H=>nA (ca (hF:=cm q5)) ?_
 refine aa H λv6 Hj H=>jR ⟨[(2,tB v6)],[],0⟩ ?_ ?_
 .exact az Hj
 exact ao H
def jS (a0:am):Int->Option (cq (Int) (Bool))
 |v1=>bif ltB v1 (a0.aj.length:Int) then(abU (ix a0.aj v1) λx2=>abU (bif ltB x2.aG 0 then(some true) else(abU (ix a0.aj v1) λx4=>abU (dB x4.d8 1 100000) λr5=>bif !r5 then(some true) else(bif ltB 0 v1 then(abU (ix a0.aj (WR (v1-1))) λx6=>abU (ix a0.aj v1) λx7=>some (leB x7.aG x6.aG)) else(some false)))) λ(v3:Bool)=>bif v3 then(dn (some false)) else(some (.next (WR (v1+1))))) else(dn (abU (dB a0.fw 0 100000) λr8=>abU (bif r8 then(abU (dB a0.bJ 0 a0.fw) λr10=>bif r10 then(abU (dB a0.eD 0 a0.fw) λr11=>bif r11 then(bif leB (a0.aj.length:Int) 8 then(abU (oY a0) λr12=>some (eqB (WR ((WR (a0.bJ+a0.eD))+r12)) a0.fw)) else(some false)) else(some false)) else(some false)) else(some false)) λ(v9:Bool)=>some v9))
def g9 (a0:am):Option Bool:=
 iter (jS a0) FU 0
theorem kT {a0:am} (H:g9 a0=some r):Fn prog 205 [.agg (cN a0)] [.c (.d (.b r))]:=by
 refine fI func205 ntmps205 ?_
 refine iT H (λq=>⟨[(1,tP 0),(3,tI q)],[(0,.var 57 (kM [.f] (cZ a0)))],1⟩) ?_
 rintro v1 o H
 refine ad ?_
 refine cC H ?_ ?_<;>intro H
 .refine dI ?_
  refine aa H λx2 hx2 H=>dA (xdT (enc:=bv) hx2) ?_
  refine aa H λv3 Hj H=>fA ⟨[(1,tP 0),(3,tI v1),(47,tB v3)],[(0,.var 57 (kM [.f] (cZ a0)))],1⟩ ?_ ?_
  .have H:=Hj
   refine wI ?_
   refine dC H ?_ ?_<;>intro H
   .refine wI ?_
    exact ai H
   refine aa H λx4 hx4 H=>dG (xdT (enc:=bv) hx4) ?_
   refine aa H λr5 q5 H=>dG (ca (hF:=cm q5)) ?_
   refine dC H ?_ ?_<;>intro H
   .refine wI ?_
    exact ai H
   refine dC H ?_ ?_<;>intro H
   .refine aa H λx6 hx6 H=>dG (xdT (enc:=bv) hx6) ?_
    refine aa H λx7 hx7 H=>dG (xdT (enc:=bv) hx7) ?_
    refine wI ?_
    exact ai H
   refine wI ?_
   exact ai H
  refine wI ?_
  refine cC H ?_ ?_<;>intro H
  .refine wI ?_
   exact aQ H
  refine wI ?_
  exact aN H
 refine aR H λH=>?_
 refine dI ?_
 refine aa H λr8 q8 H=>dA (ca (hF:=cm q8)) ?_
 refine aa H λv9 Hj H=>fA ⟨[(2,tB v9)],[],0⟩ ?_ ?_
 .have H:=Hj
  refine wI ?_
  refine dC H ?_ ?_<;>intro H
  .refine aa H λr10 q10 H=>dG (ca (hF:=cm q10)) ?_
   refine dC H ?_ ?_<;>intro H
   .refine aa H λr11 q11 H=>dG (ca (hF:=cm q11)) ?_
    refine dC H ?_ ?_<;>intro H
    .refine dC H ?_ ?_<;>intro H
     .refine aa H λr12 q12 H=>dG (ca (hF:=DU q12)) ?_
      refine wI ?_
      exact ai H
     refine wI ?_
     exact ai H
    refine wI ?_
    exact ai H
   refine wI ?_
   exact ai H
  refine wI ?_
  exact ai H
 refine wI ?_
 exact ao H
def oW (a0:am) (a1:Int):Option Int:=
 abU (qv a0 a1) λr1=>bif ltB r1 0 then(some 0) else(abU (ix a0.aj r1) λx2=>some x2.d8)
theorem zg {a0:am} {r:Int} (H:oW a0 a1=some r):Fn prog 287 [.agg (cN a0),aI a1] [.c (.d (.i .i64 r))]:=by
 refine fI func287 ntmps287 ?_
 refine aa H λr1 q1 H=>nA (ca (hF:=Bo q1)) ?_
 refine cC H ?_ ?_<;>intro H
 .exact ao H
 refine aa H λx2 hx2 H=>nA (xdT (enc:=bv) hx2) ?_
 exact ao H
def jW (a0:ab) (a1:bF):Option Bool:=
 abU (bif ltB (a0.aK.length:Int) 200 then(abU (dB a1.bk 0 (WR ((a0.av.length:Int)-1))) λr2=>bif r2 then(abU (dB a1.be 0 (WR ((a0.eo.aX.length:Int)-1))) λr3=>some r3) else(some false)) else(some false)) λ(v1:Bool)=>some v1
theorem zw {a0:ab} {a1:bF} (H:jW a0 a1=some r):Fn prog 64 [.agg (iy a0),.agg (dr a1)] [.c (.d (.b r))]:=by
 refine fI func64 ntmps64 ?_
 refine aa H λv1 Hj H=>jR ⟨[(4,tB v1)],[],0⟩ ?_ ?_
 .refine gC Hj ?_ ?_<;>intro H
  .refine aa H λr2 q2 H=>nG (ca (hF:=cm q2)) ?_
   refine gC H ?_ ?_<;>intro H
   .refine aa H λr3 q3 H=>nG (ca (hF:=cm q3)) ?_
    exact ai H
   exact ai H
  exact ai H
 exact ao H
def uW (a0:bp) (a1:bp):Option Bool:=
 abU (bif eqB a0.cM a1.cM then(bif eqB a0.fE a1.fE then(bif eqB a0.iM a1.iM then(abU (qo a0.bg a1.bg) λr2=>some r2) else(some false)) else(some false)) else(some false)) λ(v1:Bool)=>some v1
theorem E5 {a0:bp} {a1:bp} (H:uW a0 a1=some r):Fn prog 207 [.agg (eh a0),.agg (eh a1)] [.c (.d (.b r))]:=by
 refine fI func207 ntmps207 ?_
 refine aa H λv1 Hj H=>jR ⟨[(4,tB v1)],[],0⟩ ?_ ?_
 .refine gC Hj ?_ ?_<;>intro H
  .refine gC H ?_ ?_<;>intro H
   .refine gC H ?_ ?_<;>intro H
    .refine aa H λr2 q2 H=>nG (ca (hF:=AF q2)) ?_
     exact ai H
    exact ai H
   exact ai H
  exact ai H
 exact ao H
def w7 (a0:List aH) (a1:Int):Int->Option (cq (Int) (Int))
 |v1=>abU (bif ltB v1 (a0.length:Int) then(abU (ix a0 v1) λx6=>some (ltB x6.aG a1)) else(some false)) λ(v5:Bool)=>bif v5 then(some (.next (WR (v1+1)))) else(some (.done v1))
def Fu (a0:List aH) (a1:Int) (a2:Int):Option (List aH):=
 abU (iter (w7 a0 a1) FU 0) λ(v4:Int)=>abU (bif ltB v4 (a0.length:Int) then(abU (ix a0 v4) λx8=>some (eqB x8.aG a1)) else(some false)) λ(v7:Bool)=>bif v7 then(bif c8 16 (([]:List aH)++a0).length then(abU (ix (([]:List aH)++a0) v4) λx9=>abU (ix (([]:List aH)++a0) v4) λx10=>some ((([]:List aH)++a0).set (v4).toNat (⟨x10.aG,WR (x9.d8+a2)⟩:aH))) else none) else(bif eT a0 0 v4 then(bif eT a0 v4 a0.length then(bif c8 16 (([]:List aH)++(a0.take (v4).toNat)).length then(bif c8 16 ((([]:List aH)++(a0.take (v4).toNat))++[(⟨a1,a2⟩:aH)]).length then(bif c8 16 (((([]:List aH)++(a0.take (v4).toNat))++[(⟨a1,a2⟩:aH)])++(a0.drop (v4).toNat)).length then(some (((([]:List aH)++(a0.take (v4).toNat))++[(⟨a1,a2⟩:aH)])++(a0.drop (v4).toNat))) else none) else none) else none) else none) else none)
theorem Sp {a0:List aH} {a2:Int} {r:List aH} (H:Fu a0 a1 a2=some r):Fn prog 380 [aL (a0.map bv),aI a1,aI a2] [.c (.own 115 2 (r.map bv) r.length)]:=by
 refine fI func380 ntmps380 ?_
 refine aa H λv4 Hj H=>jB ⟨[(0,.v (.c (.d false (.l (a0.map bv))))),(1,tI a1),(2,tI a2),(7,tI v4)],[],0⟩ ?_ ?_
 .refine iT Hj (λq=>⟨[(0,.v (.c (.d false (.l (a0.map bv))))),(1,tI a1),(2,tI a2),(7,tI q)],[],0⟩) ?_
  rintro v1 o H
  refine ad ?_
  refine aa H λv5 Hj H=>jR ⟨[(0,.v (.c (.d false (.l (a0.map bv))))),(1,tI a1),(2,tI a2),(7,tI v1),(21,tB v5)],[],0⟩ ?_ ?_
  .refine gC Hj ?_ ?_<;>intro H
   .refine aa H λx6 hx6 H=>nG (xdT (enc:=bv) hx6) ?_
    exact ai H
   exact ai H
  refine cC H ?_ ?_<;>intro H
  .exact aN H
  exact aE H
 refine aa H λv7 Hj H=>jR ⟨[(0,.v (.c (.d false (.l (a0.map bv))))),(1,tI a1),(2,tI a2),(7,tI v4),(36,tB v7)],[],0⟩ ?_ ?_
 .refine gC Hj ?_ ?_<;>intro H
  .refine aa H λx8 hx8 H=>nG (xdT (enc:=bv) hx8) ?_
   exact ai H
  exact ai H
 refine cC H ?_ ?_<;>intro H
 .obtain⟨h,H⟩:=rq H
  refine fG rfl (apT (enc:=bv) (ys:=([]:List aH)) (zs:=a0) h) ?_
  refine aW (iR (enc:=bv) (o:=0)) ?_
  refine aa H λx9 hx9 H=>nA (xwT hx9) ?_
  refine nA (oe (he:=f7 _ hx9)) ?_
  refine aa H λx10 hx10 H=>nA (xwT hx10) ?_
  refine sA (soT (enc:=bv) (a':=(⟨x10.aG,WR (x9.d8+a2)⟩:aH)) hx10) ?_
  exact ao H
 refine zI [0,1,2,3,5,6,7,8,10,11,12,4,9,13,14] ?_
 obtain⟨h,H⟩:=rq H
 refine zA (cdhT (enc:=bv) h (λ_=>rfl) rfl rfl rfl) ?_
 obtain⟨h,H⟩:=rq H
 refine zA (Ww (enc:=bv) h (λ_=>rfl) rfl rfl rfl) ?_
 obtain⟨h,H⟩:=rq H
 refine wA (H5 (enc:=bv) (ys:=([]:List aH)) (zs:=a0.take (v4).toNat) [0] h) ?_
 obtain⟨h,H⟩:=rq H
 refine wA (H5 (enc:=bv) (ys:=(([]:List aH)++(a0.take (v4).toNat))) (zs:=[(⟨a1,a2⟩:aH)]) [2,1] h) ?_
 obtain⟨h,H⟩:=rq H
 refine wA (H5 (enc:=bv) (ys:=((([]:List aH)++(a0.take (v4).toNat))++[(⟨a1,a2⟩:aH)])) (zs:=a0.drop (v4).toNat) [3] h) ?_
 refine mK (ds:=[0,2,3]) (by kernel_rfl) (by kernel_rfl) rfl ?_
 refine wI ?_
 exact ao H
def zx (a0:ab) (a1:Int):Option (bF×ab):=
 abU (ix a0.aK a1) λx1=>bif eT a0.aK 0 a1 then(bif eT a0.aK (WR (a1+1)) a0.aK.length then(bif c8 176 (([]:List bF)++(a0.aK.take (a1).toNat)).length then(bif c8 176 ((([]:List bF)++(a0.aK.take (a1).toNat))++(a0.aK.drop (WR (a1+1)).toNat)).length then(some (x1,{a0 with aK:=((([]:List bF)++(a0.aK.take (a1).toNat))++(a0.aK.drop (WR (a1+1)).toNat))})) else none) else none) else none) else none
theorem HP {a0:ab} {r:bF×ab} (H:zx a0 a1=some r):FnV prog 268 (nS a0) [tP 200,tI a1] (nS r.2) (.v (.agg (kM [.t] (jt r.1)))) []:=by
 refine fV func268 ntmps268 ?_
 refine aa H λx1 hx1 H=>bQ (lI 193 (hne:=yH (enc:=dr) hx1)) ?_
 refine nA (xwT hx1) ?_
 refine nA (oea (he:=f7 _ hx1)) ?_
 refine zI [0,1,2,3,4,5,6,7,9,10,11,12,13,14,15,8,16,17,18,19] ?_
 obtain⟨hs5,H⟩:=rq H
 refine zA (YJ (enc:=dr) hs5 (by first|rfl|simp) rfl rfl rfl rfl) ?_
 obtain⟨hs6,H⟩:=rq H
 refine zA (Tx (enc:=dr) hs6 (by first|rfl|simp) rfl rfl rfl rfl) ?_
 obtain⟨h,H⟩:=rq H
 refine wA (apx (enc:=dr) (ys:=([]:List bF)) (zs:=a0.aK.take (a1).toNat) [212,193] h (hs:=VI (enc:=dr) hs5 rfl)) ?_
 obtain⟨h,H⟩:=rq H
 refine wA (apx (enc:=dr) (ys:=(([]:List bF)++(a0.aK.take (a1).toNat))) (zs:=a0.aK.drop (WR (a1+1)).toNat) [213,193] h (hs:=QQ (enc:=dr) hs6 (by first|rfl|simp) rfl)) ?_
 refine wA (spx 100410) ?_
 refine mK (ds:=[212,213]) (by kernel_rfl) (by kernel_rfl) rfl ?_
 refine wI ?_
 cases H
 refine co (NJ 193 214) ?_
 refine co ((ee 193)) ?_
 exact cd
def pF (a0:cA) (a1:Int):Option Bool:=
 some (eqB a1 a0.vT)
theorem Bj {a0:cA} (H:pF a0 a1=some r):Fn prog 368 [.agg (lK a0),aI a1] [.c (.d (.b r))]:=by
 refine fI func368 ntmps368 ?_
 exact ao H
def uh (a0:List ae) (a1:Int):Int->Option (cq (Int) (Int))
 |v1=>bif ltB v1 (a0.length:Int) then(abU (ix a0 v1) λx2=>bif eqB x2.cV a1 then(dn (some v1)) else(some (.next (WR (v1+1))))) else(dn (some (-1)))
def HD (a0:List ae) (a1:Int):Option Int:=
 iter (uh a0 a1) FU 0
theorem O2 {a0:List ae} {r:Int} (H:HD a0 a1=some r):Fn prog 374 [aL (a0.map an),aI a1] [.c (.d (.i .i64 r))]:=by
 refine fI func374 ntmps374 ?_
 refine iT H (λq=>⟨[(0,.v (.c (.d false (.l (a0.map an))))),(1,tI a1),(5,tI q)],[],0⟩) ?_
 rintro v1 o H
 refine ad ?_
 refine cC H ?_ ?_<;>intro H
 .refine aa H λx2 hx2 H=>nA (xdT (enc:=an) hx2) ?_
  refine cC H ?_ ?_<;>intro H
  .exact aQ H
  exact aN H
 exact aQ H
def CM (a0:List Int) (a1:Int):Option Int:=
 bif ltB a1 (WR (3+(WR (Int.tdiv (a0.length:Int) 12)))) then(some a1) else(some (WR (3+(WR (Int.tdiv (a0.length:Int) 12)))))
theorem Sr {a0:List Int} {r:Int} (H:CM a0 a1=some r):Fn prog 34 [aL (a0.map eU8),aI a1] [.c (.d (.i .i64 r))]:=by
 refine fI func34 ntmps34 ?_
 refine nA (iq rfl rfl rfl (by decide)) ?_
 exact ay H
end Go.AM
