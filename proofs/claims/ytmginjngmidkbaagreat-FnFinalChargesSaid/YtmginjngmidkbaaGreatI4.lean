/- A part. -/
import Derived.Test.YtmginjngmidkbaaGreatI3
set_option linter.unusedVariables false
open Option renaming bind->abU
open Int renaming tmod->abV
namespace Go.AM
open Go.Proofs
open Tryz
attribute [local irreducible] AWN NS AWO AWR AWC DR DZ dS gp iter
set_option maxRecDepth 100000
set_option maxHeartbeats 40000000
variable {a0 a1 r:Int}
def kt (a0:ab) (a1:Int):Option Bool:=
 abU (ix a0.av a1) λx1=>abU (ix a0.aF a1) λx2=>abU (ou x1) λr3=>abU (bif r3 then(abU (i7 x2) λr5=>bif r5 then(abU (ix a0.bk a1) λx6=>abU (fM x6) λr7=>bif r7 then(bif(eqB x1.dq.ID.dZ x2.bE.ID.dZ&&(eqB x1.dq.ID.bW x2.bE.ID.bW&&true)) then(bif eqB x1.dq.fo x2.bE.fo then(abU (lr a0.ei x1.bg) λr8=>bif r8 then(abU (lr a0.ei x2.bg) λr9=>bif r9 then(bif eqB x2.bU.aC a1 then(abU (ix a0.bk a1) λx10=>abU (fg x10 x2.bU) λr11=>some r11) else(some false)) else(some false)) else(some false)) else(some false)) else(some false)) else(some false)) else(some false)) else(some false)) λ(v4:Bool)=>some v4
instance Lw {a0:ab} {r:Bool}:FC prog (kt a0 a1=some r) 46 [.agg (gv a0),aI a1] [.c (.d (.b r))]:=gF func46 ntmps46 (hb 19 4)
def g7 (a0:List aJ):(Int×List aJ)->Option (ct (Int×List aJ) (List aJ))
 |(v1,v2)=>bif ltB v1 (a0.length:Int) then(abU (ix a0 v1) λx7=>abU (lL x7) λr8=>abU (ix v2 v1) λx9=>some (.next (WR (v1+1),(v2.set (v1).toNat r8)))) else(some (.done v2))
def fR (a0:List aJ):Option (List aJ):=
 bif qB 144 (a0.length:Int) (a0.length:Int) then(abU (iter (g7 a0) FU (0,(List.replicate ((a0.length:Int)).toNat vP))) λ(v6:List aJ)=>some v6) else none
theorem mG {a0:List aJ} {r:List aJ} (H:fR a0=some r):FnV prog 83 [] [.v (.c (.d false (.l (a0.map c9)))),.v (.c (.fn 84))] [] (.v (.c (.w 210 r.length))) [(210,w93 r)]:=by
 refine fV func83 ntmps83 ?_
 obtain⟨h,H⟩:=rq H
 refine nA (mkT (enc:=c9) (za:=vP) h (by rfl)) ?_
 refine aa H λv6 Hj H=>jB ⟨[(5,.v (.c (.w 210 v6.length)))],[(210,w93 v6)],211⟩ ?_ ?_
 .refine iT Hj (λq=>⟨[(1,.v (.c (.fn 84))),(5,.v (.c (.w 210 q.2.length))),(11,.v (.c (.d false (.l (a0.map c9))))),(12,tI (a0.length:Int)),(13,tI q.1)],[(210,w93 q.2)],211⟩) ?_
  rintro⟨v1,v2⟩ o H
  refine ad ?_
  refine cC H ?_ ?_<;>intro H
  .refine aa H λx7 hx7 H=>nA (xdT (enc:=c9) hx7) ?_
   refine aa H λr8 q8 H=>nA (PG rfl (ca (hF:=zx.h q8))) ?_
   refine aa H λx9 hx9 H=>nA (xwT hx9) ?_
   refine bG (aV (o:=212)) ?_
   refine bG (aV (o:=213)) ?_
   refine bG (bN (k:=22)) ?_
   refine sA (soT (enc:=c9) (a':=r8) hx9) ?_
   exact aN H
  exact aE H
 cases H
 exact cg
def gD (a0:List ah):(Int×List ah)->Option (ct (Int×List ah) (List ah))
 |(v1,v2)=>bif ltB v1 (a0.length:Int) then(abU (ix a0 v1) λx7=>abU (gL x7) λr8=>abU (ix v2 v1) λx9=>some (.next (WR (v1+1),(v2.set (v1).toNat r8)))) else(some (.done v2))
def fE (a0:List ah):Option (List ah):=
 bif qB 288 (a0.length:Int) (a0.length:Int) then(abU (iter (gD a0) FU (0,(List.replicate ((a0.length:Int)).toNat pX))) λ(v6:List ah)=>some v6) else none
theorem lN {a0:List ah} {r:List ah} (H:fE a0=some r):FnV prog 85 [] [.v (.c (.d false (.l (a0.map bZ)))),.v (.c (.fn 86))] [] (.v (.c (.w 210 r.length))) [(210,w75 r)]:=by
 refine fV func85 ntmps85 ?_
 obtain⟨h,H⟩:=rq H
 refine nA (mkT (enc:=bZ) (za:=pX) h (by rfl)) ?_
 refine aa H λv6 Hj H=>jB ⟨[(5,.v (.c (.w 210 v6.length)))],[(210,w75 v6)],211⟩ ?_ ?_
 .refine iT Hj (λq=>⟨[(1,.v (.c (.fn 86))),(5,.v (.c (.w 210 q.2.length))),(11,.v (.c (.d false (.l (a0.map bZ))))),(12,tI (a0.length:Int)),(13,tI q.1)],[(210,w75 q.2)],211⟩) ?_
  rintro⟨v1,v2⟩ o H
  refine ad ?_
  refine cC H ?_ ?_<;>intro H
  .refine aa H λx7 hx7 H=>nA (xdT (enc:=bZ) hx7) ?_
   refine aa H λr8 q8 H=>nA (PG rfl (ca (hF:=oI.h q8))) ?_
   refine aa H λx9 hx9 H=>nA (xwT hx9) ?_
   refine bG (aV (o:=212)) ?_
   refine bG (aV (o:=213)) ?_
   refine bG (aV (o:=214)) ?_
   refine bG (bN (k:=22)) ?_
   refine sA (soT (enc:=bZ) (a':=r8) hx9) ?_
   exact aN H
  exact aE H
 cases H
 exact cg
def g8 (a0:List bS):(Int×List bS)->Option (ct (Int×List bS) (List bS))
 |(v1,v2)=>bif ltB v1 (a0.length:Int) then(abU (ix a0 v1) λx7=>abU (qv x7) λr8=>abU (ix v2 v1) λx9=>some (.next (WR (v1+1),(v2.set (v1).toNat r8)))) else(some (.done v2))
def fT (a0:List bS):Option (List bS):=
 bif qB 176 (a0.length:Int) (a0.length:Int) then(abU (iter (g8 a0) FU (0,(List.replicate ((a0.length:Int)).toNat fL))) λ(v6:List bS)=>some v6) else none
theorem mH {a0:List bS} {r:List bS} (H:fT a0=some r):FnV prog 88 [] [.v (.c (.d false (.l (a0.map eb)))),.v (.c (.fn 89))] [] (.v (.c (.w 210 r.length))) [(210,w49 r)]:=by
 refine fV func88 ntmps88 ?_
 obtain⟨h,H⟩:=rq H
 refine nA (mkT (enc:=eb) (za:=fL) h (by rfl)) ?_
 refine aa H λv6 Hj H=>jB ⟨[(5,.v (.c (.w 210 v6.length)))],[(210,w49 v6)],211⟩ ?_ ?_
 .refine iT Hj (λq=>⟨[(1,.v (.c (.fn 89))),(5,.v (.c (.w 210 q.2.length))),(11,.v (.c (.d false (.l (a0.map eb))))),(12,tI (a0.length:Int)),(13,tI q.1)],[(210,w49 q.2)],211⟩) ?_
  rintro⟨v1,v2⟩ o H
  refine ad ?_
  refine cC H ?_ ?_<;>intro H
  .refine aa H λx7 hx7 H=>nA (xdT (enc:=eb) hx7) ?_
   refine aa H λr8 q8 H=>nA (PG rfl (ca (hF:=zy.h q8))) ?_
   refine aa H λx9 hx9 H=>nA (xwT hx9) ?_
   refine bG (aV (o:=212)) ?_
   refine bG (bN (k:=22)) ?_
   refine sA (soT (enc:=eb) (a':=r8) hx9) ?_
   exact aN H
  exact aE H
 cases H
 exact cg
def dL (a0:ah) (a1:List aH):Option bI:=
 abU (gL a0) λr1=>abU (ga a1) λr2=>some (⟨r1,r2⟩:bI)
instance Rc {a0:ah} {a1:List aH} {r:bI}:FC prog (dL a0 a1=some r) 228 [.agg (bZ a0),aL (a1.map cZ)] [.agg (qM [.o,.o,.o,.o] (eh r))]:=gF func228 ntmps228
def mR (a0:Int) (a1:Int):Option Int:=
 abU (fc a0 [1,a1]) λr1=>some (abV r1 1000000)
instance Dq:FC prog (mR a0 a1=some r) 278 [aI a0,aI a1] [.c (.d (.i .i64 r))]:=gF func278 ntmps278
def ot (a0:dw) (a1:Int):Option Int:=
 abU (fc 29 [a0.dZ,a0.bW,a1]) λr1=>some r1
instance Q1 {a0:dw} :FC prog (ot a0 a1=some r) 298 [.agg (om a0),aI a1] [.c (.d (.i .i64 r))]:=gF func298 ntmps298
def pJ (a0:Int) (a1:Int):Option Int:=
 abU (fc a0 [9,a1]) λr1=>bif eqB r1 0 then(some 1) else(some r1)
instance Xq:FC prog (pJ a0 a1=some r) 218 [aI a0,aI a1] [.c (.d (.i .i64 r))]:=gF func218 ntmps218
def qy (a0:ab) (a1:bS):Option ab:=
 bif leB 200 (a0.aT.length:Int) then(some {a0 with ki:=WR (a0.ki+1)}) else(abU (qv a1) λr1=>bif da 176 (a0.aT++[r1]).length then(some {a0 with aT:=(a0.aT++[r1])}) else none)
theorem Jv {a0:ab} {a1:bS} {r:ab} (H:qy a0 a1=some r):FnV prog 151 (nI a0) [tP 200,.v (.agg (kM [.t] (mN a1)))] (nI r) (.tup []) []:=by
 refine fV func151 ntmps151 ?_
 refine cC H ?_ ?_<;>intro H
 .cases H
  exact cg
 refine OQ 0 17 0 [1,2,3,4,5,6,7,8,9,10,11] Try.follows (by kernel_rfl) (by kernel_rfl) rfl (by kernel_rfl) rfl rfl ?_
 refine wI ?_
 refine aa H λr1 q1 H=>zA (ca (hF:=(zy.h q1).frzs (by repeat (first|exact trivial|refine⟨?_,?_⟩|exact lm _|rfl)))) ?_
 obtain⟨h,H⟩:=rq H
 refine zB bK (fQ rfl (apT (enc:=eb) (ys:=a0.aT) (zs:=[r1]) h)) bK ?_
 refine wA (spx 100510) ?_
 cases H
 exact mO
def nX (a0:Int) (a1:Int) (a2:Int) (a3:List Int):Option Int:=
 abU (rr a3) λr1=>bif da 8 ([a1,a2]++r1).length then(abU (fc a0 ([a1,a2]++r1)) λr2=>some r2) else none
instance WC {a2:Int} {a3:List Int} :FC prog (nX a0 a1 a2 a3=some r) 275 [aI a0,aI a1,aI a2,aL (a3.map eU8)] [.c (.d (.i .i64 r))]:=⟨λH=>by
 refine fI func275 ntmps275 ?_
 refine aa H λr1 q1 H=>nA (ca (hF:=EQ.h q1)) ?_
 obtain⟨h,H⟩:=rq H
 refine sA (apT (enc:=eI) (ys:=[a1,a2]) (zs:=r1) h) ?_
 refine aa H λr2 q2 H=>nA (ca (hF:=ko.h q2)) ?_
 cases H
 exact bX⟩
def xJ (a0:Int) (r1:List Int):(Int×List Int)->Option (ct (Int×List Int) (List Int))
 |(v2,v3)=>bif ltB v2 (r1.length:Int) then(abU (ix v3 v2) λx8=>abU (fc a0 [v2]) λr9=>abU (ix v3 v2) λx10=>some (.next (WR (v2+1),(v3.set (v2).toNat (IntKind.u8.wrap (x8-(IntKind.u8.wrap (abV r9 256)))))))) else(some (.done v3))
def A8 (a0:Int) (a1:List Int):Option (List Int):=
 abU (fj a1) λr1=>abU (iter (xJ a0 r1) FU (0,r1)) λ(v7:List Int)=>some v7
instance ZJ {a1:List Int} {r:List Int}:FC prog (A8 a0 a1=some r) 217 [aI a0,aL (a1.map eU8)] [.c (.own 5 1 (r.map eU8) r.length)]:=⟨λH=>by
 refine fI func217 ntmps217 ?_
 refine aa H λr1 q1 H=>nA (ca (hF:=gK.h q1)) ?_
 refine aa H λv7 Hj H=>jB ⟨[(5,.v (.c (.w 0 v7.length)))],[(0,w5 v7)],1⟩ ?_ ?_
 .refine iT Hj (λq=>⟨[(0,tI a0),(5,.v (.c (.w 0 q.2.length))),(10,tI (r1.length:Int)),(11,tI q.1)],[(0,w5 q.2)],1⟩) ?_
  rintro⟨v2,v3⟩ o H
  refine ad ?_
  refine cC H ?_ ?_<;>intro H
  .refine qS [0,1,2,3,4,5,6,7,8,9,10,11,12] (h:=?_)
   refine wkb ?_
   refine aa H λx8 hx8 H=>jP rfl (xwT hx8) ?_
   refine wkb ?_
   refine jP rfl (oe (he:=ez _ hx8)) ?_
   refine wkb ?_
   refine Cc rfl (bsx (bs rfl rfl rfl rfl rfl rfl rfl rfl) rfl) ?_
   refine wkb ?_
   refine aa H λr9 q9 H=>jP rfl (ca (hF:=ko.h q9)) ?_
   refine wkb ?_
   refine jP rfl (ir rfl rfl rfl (by decide)) ?_
   refine wkb ?_
   refine aa H λx10 hx10 H=>jP rfl (xwT hx10) ?_
   refine wkb ?_
   refine Cb (by kernel_rfl) rfl (by kernel_rfl) bK (fQ rfl (soT (enc:=eU8) (a':=IntKind.u8.wrap (x8-(IntKind.u8.wrap (abV r9 256)))) hx10)) bK rfl ?_
   refine wkb ?_
   refine wI ?_
   exact aN H
  exact aE H
 cases H
 exact bX⟩
def cV (a0:aJ) (a1:List aH):Option aY:=
 abU (lL a0) λr1=>abU (ga a1) λr2=>some (⟨r1,r2⟩:aY)
instance fN {a0:aJ} {a1:List aH} {r:aY}:FC prog (cV a0 a1=some r) 229 [.agg (c9 a0),aL (a1.map cZ)] [.agg (qM [.o,.o,.o] (cd r))]:=gF func229 ntmps229
def ry (a0:Int) (a1:Int) (a2:Int):Option Int:=
 abU (cf a2 0 999999) λr1=>bif !r1 then(some (-1)) else(abU (fc a0 [5,a1,a2]) λr2=>some (WR ((WR (1000000*(abV r2 1000)))+a2)))
instance E6 {a2:Int} :FC prog (ry a0 a1 a2=some r) 338 [aI a0,aI a1,aI a2] [.c (.d (.i .i64 r))]:=gF func338 ntmps338
def xK (a0:Int) (r1:List Int):(Int×List Int)->Option (ct (Int×List Int) (List Int))
 |(v2,v3)=>bif ltB v2 (r1.length:Int) then(abU (ix v3 v2) λx8=>abU (fc a0 [v2]) λr9=>abU (ix v3 v2) λx10=>some (.next (WR (v2+1),(v3.set (v2).toNat (IntKind.u8.wrap (x8+(IntKind.u8.wrap (abV r9 256)))))))) else(some (.done v3))
def A9 (a0:Int) (a1:List Int):Option (List Int):=
 abU (fj a1) λr1=>abU (iter (xK a0 r1) FU (0,r1)) λ(v7:List Int)=>some v7
instance ZK {a1:List Int} {r:List Int}:FC prog (A9 a0 a1=some r) 361 [aI a0,aL (a1.map eU8)] [.c (.own 5 1 (r.map eU8) r.length)]:=⟨λH=>by
 refine fI func361 ntmps361 ?_
 refine aa H λr1 q1 H=>nA (ca (hF:=gK.h q1)) ?_
 refine aa H λv7 Hj H=>jB ⟨[(5,.v (.c (.w 0 v7.length)))],[(0,w5 v7)],1⟩ ?_ ?_
 .refine iT Hj (λq=>⟨[(0,tI a0),(5,.v (.c (.w 0 q.2.length))),(10,tI (r1.length:Int)),(11,tI q.1)],[(0,w5 q.2)],1⟩) ?_
  rintro⟨v2,v3⟩ o H
  refine ad ?_
  refine cC H ?_ ?_<;>intro H
  .refine qS [0,1,2,3,4,5,6,7,8,9,10,11,12] (h:=?_)
   refine wkb ?_
   refine aa H λx8 hx8 H=>jP rfl (xwT hx8) ?_
   refine wkb ?_
   refine jP rfl (oe (he:=ez _ hx8)) ?_
   refine wkb ?_
   refine Cc rfl (bsx (bs rfl rfl rfl rfl rfl rfl rfl rfl) rfl) ?_
   refine wkb ?_
   refine aa H λr9 q9 H=>jP rfl (ca (hF:=ko.h q9)) ?_
   refine wkb ?_
   refine jP rfl (ir rfl rfl rfl (by decide)) ?_
   refine wkb ?_
   refine aa H λx10 hx10 H=>jP rfl (xwT hx10) ?_
   refine wkb ?_
   refine Cb (by kernel_rfl) rfl (by kernel_rfl) bK (fQ rfl (soT (enc:=eU8) (a':=IntKind.u8.wrap (x8+(IntKind.u8.wrap (abV r9 256)))) hx10)) bK rfl ?_
   refine wkb ?_
   refine wI ?_
   exact aN H
  exact aE H
 cases H
 exact bX⟩
def rv (a0:ah) (a1:am) (a2:Int):Option (ah×am):=
 abU (gL a0) λr1=>abU (oA r1 a2) λr2=>bif leB r2 0 then(abU (eK a1) λr3=>some (r1,r3)) else(abU (Xs r2 r1.gG.et) λr4=>abU (p7 a1 r1.bU r4) λr5=>some ({r1 with bU:=r5.2},r5.1))
instance ES {a0:ah} {a1:am} {a2:Int} {r:ah×am}:FC prog (rv a0 a1 a2=some r) 309 [.agg (bZ a0),.agg (cT a1),aI a2] [.agg (qM [.o,.o,.o] (c7 r.1)),.agg (qM [.o] (cq r.2))]:=gF func309 ntmps309 (hz 4) (hz 7) (hz 5)
def wd (a0:aJ):Option aJ:=
 abU (bif eqB a0.bi 2 then(some 3) else(some a0.bi)) λ(v1:Int)=>abU (lL {a0 with bi:=v1}) λr2=>some r2
instance Xr {a0:aJ} {r:aJ}:FC prog (wd a0=some r) 154 [.agg (c9 a0)] [.agg (qM [.o,.o] (dF r))]:=⟨λH=>by
 refine fI func154 ntmps154 ?_
 refine aa H λv1 Hj H=>jA ⟨[(1,tP 0),(2,tP 1)],[(0,.var 93 (kM [.f,.f] (dF {a0 with bi:=v1}))),(1,.var 93 (kM [.z,.z] (dF vP)))],2⟩ ?_ ?_
 .exact az Hj
 refine aa H λr2 q2 H=>nA (ca (hF:=zx.h q2)) ?_
 cases H
 exact bX⟩
def p8 (a0:ah) (a1:List Int):Option (ah×Bool):=
 abU (gL a0) λr1=>abU (bif leB 24 (a0.aG.length:Int) then(some true) else(some (ltB 60 (a1.length:Int)))) λ(v2:Bool)=>bif v2 then(some (r1,false)) else(abU (fj a1) λr3=>bif da 24 (r1.aG++[(⟨r3⟩:bV)]).length then(some ({r1 with aG:=(r1.aG++[(⟨r3⟩:bV)])},true)) else none)
instance SB {a0:ah} {a1:List Int} {r:ah×Bool}:FC prog (p8 a0 a1=some r) 155 [.agg (bZ a0),aL (a1.map eU8)] [.agg (qM [.o,.o,.o] (c7 r.1)),.c (.d (.b r.2))]:=⟨λH=>by
 refine fI func155 ntmps155 ?_
 refine aa H λr1 q1 H=>nA (ca (hF:=oI.h q1)) ?_
 refine aa H λv2 Hj H=>jR ⟨[(1,.v (.c (.d false (.l (a1.map eU8))))),(4,tP 1),(6,tP 5),(17,tB v2)],(oM [.w 2,.w 3,.w 4] 5 75 (c7 r1)++[(1,.var 75 (kM [.z,.z,.z] (c7 pX)))]),6⟩ ?_ ?_
 .exact az Hj
 refine cC H ?_ ?_<;>intro H
 .exact ao H
 refine zI (List.range 9) ?_
 refine aa H λr3 q3 H=>zA (ca (hF:=(gK.h q3).frzs (by repeat (first|exact trivial|refine⟨?_,?_⟩|exact lm _|rfl)))) ?_
 obtain⟨h,H⟩:=rq H
 refine zB bK (fQ rfl (apT (enc:=ee) (ys:=r1.aG) (zs:=[(⟨r3⟩:bV)]) h)) bK ?_
 refine wA (spx 100662) ?_
 cases H
 exact bX⟩
def lk (a0:Int) (a1:Int):Option Int:=
 abU (fc 17 [a0,a1]) λr1=>some (abV (WR (r1*r1)) 2147483647)
instance MZ:FC prog (lk a0 a1=some r) 239 [aI a0,aI a1] [.c (.d (.i .i64 r))]:=gF func239 ntmps239
def yT (a0:ah):Option ah:=
 abU (gL a0) λr1=>some {r1 with aK:=cr,bL:=0,dX:=0,gr:=ed,dP:=0}
instance YT {a0:ah} {r:ah}:FC prog (yT a0=some r) 159 [.agg (bZ a0)] [.agg (qM [.o,.o,.o] (c7 r))]:=gF func159 ntmps159
def p4 (a0:am) (a1:cP):Option am:=
 abU (fg a0 a1) λr1=>bif !r1 then(abU (eK a0) λr2=>some r2) else(abU (mj a0 a1) λr3=>abU (xN r3.1 r3.2.aC) λr4=>some r4)
instance Sv {a0:am} {a1:cP} {r:am}:FC prog (p4 a0 a1=some r) 17 [.agg (cT a0),.agg (mf a1)] [.agg (qM [.o] (cq r))]:=gF func17 ntmps17
end Go.AM
