/- A part. -/
import Derived.Test.YtmginjngmidkbaaGreatI3
set_option linter.unusedVariables false
open Option renaming bind->abU
namespace Go.AM
open Go.Proofs
open Tryz
attribute [local irreducible] AWN NS AWO AWR AWC DR ea gL
set_option maxRecDepth 100000
set_option maxHeartbeats 40000000
variable {a0 r a1:Int}
def iE (a0:ab):Int->Option (cq (Int) (Bool))
 |v7=>bif ltB v7 (a0.aK.length:Int) then(abU (ix a0.aK v7) λx8=>abU (b9 x8.bk 0 (WR ((a0.av.length:Int)-1))) λr9=>abU (bif !r9 then(some true) else(abU (kP a0.eo x8.be) λr11=>some (!r11))) λ(v10:Bool)=>bif v10 then(dn (some false)) else(some (.next (WR (v7+1))))) else(dn (bif leB 0 (a0.eo.aX.length:Int) then(abU (b9 a0.dv 0 (WR ((lJ .i64 1 (a0.eo.aX.length:Int))-1))) λr12=>abU (bif r12 then(abU (b9 a0.qz 0 100000) λr14=>bif r14 then(some (leB 0 a0.jr)) else(some false)) else(some false)) λ(v13:Bool)=>some v13) else none))
def iD (a0:ab):Int->Option (cq (Int) (Bool))
 |v5=>bif ltB v5 (a0.av.length:Int) then(abU (jP a0 v5) λr6=>bif !r6 then(dn (some false)) else(some (.next (WR (v5+1))))) else(dn (bif ltB 200 (a0.aK.length:Int) then(some false) else(iter (iE a0) FU 0)))
def gY (a0:ab):Option Bool:=
 abU (tA a0.eo) λr1=>abU (bif !r1 then(some true) else(abU (jM a0.ef) λr3=>bif !r3 then(some true) else(some (eqB a0.ef.fj 0)))) λ(v2:Bool)=>bif v2 then(some false) else(abU (bif ltB 4 (a0.av.length:Int) then(some true) else(bif !eqB (a0.aF.length:Int) (a0.av.length:Int) then(some true) else(some (!eqB (a0.bG.length:Int) (a0.av.length:Int))))) λ(v4:Bool)=>bif v4 then(some false) else(iter (iD a0) FU 0))
theorem nZ {a0:ab} {r:Bool} (H:gY a0=some r):Fn prog 15 [.agg (iy a0)] [.c (.d (.b r))]:=by
 refine fI func15 ntmps15 ?_
 refine aa H λr1 q1 H=>nA (ca (hF:=H9 q1)) ?_
 refine aa H λv2 Hj H=>jR ⟨[(1,tP 0),(21,tB v2)],[(0,.var 34 (kM [.f,.f,.f,.f,.f] (aU a0)))],1⟩ ?_ ?_
 .refine gC Hj ?_ ?_<;>intro H
  .exact ai H
  refine aa H λr3 q3 H=>nG (ca (hF:=Gu q3)) ?_
  exact az H
 refine cC H ?_ ?_<;>intro H
 .exact ao H
 refine aa H λv4 Hj H=>jR ⟨[(1,tP 0),(43,tB v4)],[(0,.var 34 (kM [.f,.f,.f,.f,.f] (aU a0)))],1⟩ ?_ ?_
 .exact az Hj
 refine cC H ?_ ?_<;>intro H
 .exact ao H
 refine iT H (λq=>⟨[(1,tP 0),(46,tI (a0.av.length:Int)),(47,tI q)],[(0,.var 34 (kM [.f,.f,.f,.f,.f] (aU a0)))],1⟩) ?_
 rintro v5 o H
 refine ad ?_
 refine cC H ?_ ?_<;>intro H
 .refine aa H λr6 q6 H=>nA (ca (hF:=yA q6)) ?_
  refine cC H ?_ ?_<;>intro H
  .exact aQ H
  exact aN H
 refine aR H λH=>?_
 refine cC H ?_ ?_<;>intro H
 .exact ao H
 refine iT H (λq=>⟨[(1,tP 0),(60,.v (.c (.d false (.l (a0.aK.map dr))))),(61,tI (a0.aK.length:Int)),(62,tI q)],[(0,.var 34 (kM [.f,.f,.f,.f,.f] (aU a0)))],1⟩) ?_
 rintro v7 o H
 refine ad ?_
 refine cC H ?_ ?_<;>intro H
 .refine aa H λx8 hx8 H=>nA (xdT (enc:=dr) hx8) ?_
  refine aa H λr9 q9 H=>nA (ca (hF:=bX q9)) ?_
  refine aa H λv10 Hj H=>jR ⟨[(1,tP 0),(60,.v (.c (.d false (.l (a0.aK.map dr))))),(61,tI (a0.aK.length:Int)),(62,tI v7),(81,tB v10)],[(0,.var 34 (kM [.f,.f,.f,.f,.f] (aU a0)))],1⟩ ?_ ?_
  .refine gC Hj ?_ ?_<;>intro H
   .exact ai H
   refine aa H λr11 q11 H=>nG (ca (hF:=rT q11)) ?_
   exact ai H
  refine cC H ?_ ?_<;>intro H
  .exact aQ H
  exact aN H
 refine aR H λH=>?_
 refine dI ?_
 obtain⟨h,H⟩:=rq H
 refine dA (Ig h rfl rfl rfl rfl) ?_
 refine aa H λr12 q12 H=>dA (ca (hF:=bX q12)) ?_
 refine aa H λv13 Hj H=>fA ⟨[(2,tB v13)],[],0⟩ ?_ ?_
 .have H:=Hj
  refine wI ?_
  refine dC H ?_ ?_<;>intro H
  .refine aa H λr14 q14 H=>dG (ca (hF:=bX q14)) ?_
   refine dC H ?_ ?_<;>intro H
   .refine wI ?_
    exact ai H
   refine wI ?_
   exact ai H
  refine wI ?_
  exact ai H
 refine wI ?_
 exact ao H
def gu (a0:List ah):(Int×List ah)->Option (cq (Int×List ah) (List ah))
 |(v1,v2)=>bif ltB v1 (a0.length:Int) then(abU (ix a0 v1) λx7=>abU (gD x7) λr8=>abU (ix v2 v1) λx9=>some (.next (WR (v1+1),(v2.set (v1).toNat r8)))) else(some (.done v2))
def fy (a0:List ah):Option (List ah):=
 bif qk 288 (a0.length:Int) (a0.length:Int) then(abU (iter (gu a0) FU (0,(List.replicate ((a0.length:Int)).toNat rZ))) λ(v6:List ah)=>some v6) else none
theorem lq {a0:List ah} {r:List ah} (H:fy a0=some r):FnV prog 85 [] [.v (.c (.d false (.l (a0.map bU)))),.v (.c (.fn 86))] [] (.v (.c (.w 210 r.length))) [(210,w75 r)]:=by
 refine fV func85 ntmps85 ?_
 obtain⟨h,H⟩:=rq H
 refine nA (mkT (enc:=bU) (za:=rZ) h (by rfl)) ?_
 refine aa H λv6 Hj H=>jB ⟨[(5,.v (.c (.w 210 v6.length)))],[(210,w75 v6)],211⟩ ?_ ?_
 .refine iT Hj (λq=>⟨[(1,.v (.c (.fn 86))),(5,.v (.c (.w 210 q.2.length))),(11,.v (.c (.d false (.l (a0.map bU))))),(12,tI (a0.length:Int)),(13,tI q.1)],[(210,w75 q.2)],211⟩) ?_
  rintro⟨v1,v2⟩ o H
  refine ad ?_
  refine cC H ?_ ?_<;>intro H
  .refine aa H λx7 hx7 H=>nA (xdT (enc:=bU) hx7) ?_
   refine aa H λr8 q8 H=>nA (Qn rfl (ca (hF:=yx q8))) ?_
   refine aa H λx9 hx9 H=>nA (xwT hx9) ?_
   refine bQ (bb (o:=212)) ?_
   refine bQ (bb (o:=213)) ?_
   refine bQ (bb (o:=214)) ?_
   refine bQ (b7 (k:=22)) ?_
   refine sA (soT (enc:=bU) (a':=r8) hx9) ?_
   exact aN H
  exact aE H
 cases H
 exact cd
def gU (a0:List bF):(Int×List bF)->Option (cq (Int×List bF) (List bF))
 |(v1,v2)=>bif ltB v1 (a0.length:Int) then(abU (ix a0 v1) λx7=>abU (p9 x7) λr8=>abU (ix v2 v1) λx9=>some (.next (WR (v1+1),(v2.set (v1).toNat r8)))) else(some (.done v2))
def fO (a0:List bF):Option (List bF):=
 bif qk 176 (a0.length:Int) (a0.length:Int) then(abU (iter (gU a0) FU (0,(List.replicate ((a0.length:Int)).toNat eF))) λ(v6:List bF)=>some v6) else none
theorem mf {a0:List bF} {r:List bF} (H:fO a0=some r):FnV prog 88 [] [.v (.c (.d false (.l (a0.map dr)))),.v (.c (.fn 89))] [] (.v (.c (.w 210 r.length))) [(210,w49 r)]:=by
 refine fV func88 ntmps88 ?_
 obtain⟨h,H⟩:=rq H
 refine nA (mkT (enc:=dr) (za:=eF) h (by rfl)) ?_
 refine aa H λv6 Hj H=>jB ⟨[(5,.v (.c (.w 210 v6.length)))],[(210,w49 v6)],211⟩ ?_ ?_
 .refine iT Hj (λq=>⟨[(1,.v (.c (.fn 89))),(5,.v (.c (.w 210 q.2.length))),(11,.v (.c (.d false (.l (a0.map dr))))),(12,tI (a0.length:Int)),(13,tI q.1)],[(210,w49 q.2)],211⟩) ?_
  rintro⟨v1,v2⟩ o H
  refine ad ?_
  refine cC H ?_ ?_<;>intro H
  .refine aa H λx7 hx7 H=>nA (xdT (enc:=dr) hx7) ?_
   refine aa H λr8 q8 H=>nA (Qn rfl (ca (hF:=Aw q8))) ?_
   refine aa H λx9 hx9 H=>nA (xwT hx9) ?_
   refine bQ (bb (o:=212)) ?_
   refine bQ (b7 (k:=22)) ?_
   refine sA (soT (enc:=dr) (a':=r8) hx9) ?_
   exact aN H
  exact aE H
 cases H
 exact cd
def iX (a0:ab):Option ab:=
 abU (B6 a0.eo) λr1=>abU (fN a0.av) λr2=>abU (fy a0.aF) λr3=>abU (fx a0.bG) λr4=>abU (fO a0.aK) λr5=>some (⟨r1,r2,r3,r4,r5,a0.dv,a0.ef,a0.qz,a0.jr⟩:ab)
theorem sK {a0:ab} {r:ab} (H:iX a0=some r):Fn prog 35 [.agg (iy a0)] [.agg (qM [.o,.o,.o,.o,.o] (aU r))]:=by
 refine fI func35 ntmps35 ?_
 refine aa H λr1 q1 H=>nA (ca (hF:=Ok q1)) ?_
 refine aa H λr2 q2 H=>sA (cwv [] [(210,3)] 4 (me q2)) ?_
 refine aa H λr3 q3 H=>sA (cwv [] [(210,4)] 5 (lq q3)) ?_
 refine aa H λr4 q4 H=>sA (cwv [] [(210,5)] 6 (lp q4)) ?_
 refine aa H λr5 q5 H=>sA (cwv [] [(210,6)] 7 (mf q5)) ?_
 exact ao H
def dM (a0:ah) (a1:List aD):Option bI:=
 abU (gD a0) λr1=>abU (f5 a1) λr2=>some (⟨r1,r2⟩:bI)
theorem eA {a0:ah} {a1:List aD} {r:bI} (H:dM a0 a1=some r):Fn prog 228 [.agg (bU a0),aL (a1.map c9)] [.agg (qM [.o,.o,.o,.o] (cK r))]:=by
 refine fI func228 ntmps228 ?_
 refine aa H λr1 q1 H=>nA (ca (hF:=yx q1)) ?_
 refine aa H λr2 q2 H=>nA (ca (hF:=mt q2)) ?_
 exact ao H
def mr (a0:Int) (a1:Int):Option Int:=
 abU (eY a0 [1,a1]) λr1=>some (Int.tmod r1 1000000)
theorem xv (H:mr a0 a1=some r):Fn prog 278 [aI a0,aI a1] [.c (.d (.i .i64 r))]:=by
 refine fI func278 ntmps278 ?_
 refine aa H λr1 q1 H=>nA (ca (hF:=fL q1)) ?_
 refine nA (ir rfl rfl rfl (by decide)) ?_
 exact ao H
def li (a0:Int) (a1:Int) (a2:Int):Option cA:=
 abU (b9 a2 0 999999) λr1=>bif !r1 then(some cg) else(abU (mr a0 a1) λr2=>abU (eY a0 [2,a1,a2]) λr3=>abU (eY a0 [3,a1]) λr4=>abU (eY a0 [4,a1,a2]) λr5=>abU (bif eqB r5 0 then(some 1) else(some r5)) λ(v6:Int)=>some (⟨a1,Int.tmod (WR (a2+r2)) 1000000,r3,r4,v6⟩:cA))
theorem vl {a2:Int} {r:cA} (H:li a0 a1 a2=some r):Fn prog 337 [aI a0,aI a1,aI a2] [.agg (qM [] (ei r))]:=by
 refine fI func337 ntmps337 ?_
 refine aa H λr1 q1 H=>nA (ca (hF:=bX q1)) ?_
 refine cC H ?_ ?_<;>intro H
 .exact ao H
 refine aa H λr2 q2 H=>nA (ca (hF:=xv q2)) ?_
 refine nA (ir rfl rfl rfl (by decide)) ?_
 refine aa H λr3 q3 H=>nA (ca (hF:=fL q3)) ?_
 refine aa H λr4 q4 H=>nA (ca (hF:=fL q4)) ?_
 refine aa H λr5 q5 H=>nA (ca (hF:=fL q5)) ?_
 refine aa H λv6 Hj H=>jA ⟨[(6,tP 0),(7,tP 4)],[(0,.var 41 (kM [] (ei cg))),(4,.var 41 (kM [] (ei (⟨a1,Int.tmod (WR (a2+r2)) 1000000,r3,r4,v6⟩:cA))))],5⟩ ?_ ?_
 .exact az Hj
 exact ao H
def nV (a0:dD) (a1:Int):Option Int:=
 abU (eY 29 [a0.dN,a0.bL,a1]) λr1=>some r1
theorem Dj {a0:dD} (H:nV a0 a1=some r):Fn prog 298 [.agg (nT a0),aI a1] [.c (.d (.i .i64 r))]:=by
 refine fI func298 ntmps298 ?_
 refine aa H λr1 q1 H=>nA (ca (hF:=fL q1)) ?_
 exact ao H
def ph (a0:Int) (a1:Int):Option Int:=
 abU (eY a0 [9,a1]) λr1=>bif eqB r1 0 then(some 1) else(some r1)
theorem BX (H:ph a0 a1=some r):Fn prog 218 [aI a0,aI a1] [.c (.d (.i .i64 r))]:=by
 refine fI func218 ntmps218 ?_
 refine aa H λr1 q1 H=>nA (ca (hF:=fL q1)) ?_
 exact ay H
def qf (a0:ab) (a1:bF):Option ab:=
 bif leB 200 (a0.aK.length:Int) then(some {a0 with jr:=WR (a0.jr+1)}) else(abU (p9 a1) λr1=>bif c8 176 (a0.aK++[r1]).length then(some {a0 with aK:=(a0.aK++[r1])}) else none)
theorem P4 {a0:ab} {a1:bF} {r:ab} (H:qf a0 a1=some r):FnV prog 151 (nI a0) [tP 200,.v (.agg (kM [.t] (jt a1)))] (nI r) (.tup []) []:=by
 refine fV func151 ntmps151 ?_
 refine cC H ?_ ?_<;>intro H
 .cases H
  exact cd
 refine Pw 0 17 0 [1,2,3,4,5,6,7,8,9,10,11] Try.follows (by kernel_rfl) (by kernel_rfl) rfl (by kernel_rfl) rfl rfl ?_
 refine wI ?_
 refine aa H λr1 q1 H=>zA (ca (hF:=(Aw q1).frzs (by repeat (first|exact trivial|refine⟨?_,?_⟩|exact lm _|rfl)))) ?_
 obtain⟨h,H⟩:=rq H
 refine zB b8 (gG rfl (apT (enc:=dr) (ys:=a0.aK) (zs:=[r1]) h)) b8 ?_
 refine wA (spx 100510) ?_
 cases H
 exact mn
def ny (a0:Int) (a1:Int) (a2:Int) (a3:List Int):Option Int:=
 abU (rh a3) λr1=>bif c8 8 ([a1,a2]++r1).length then(abU (eY a0 ([a1,a2]++r1)) λr2=>some r2) else none
theorem If {a2:Int} {a3:List Int} (H:ny a0 a1 a2 a3=some r):Fn prog 275 [aI a0,aI a1,aI a2,aL (a3.map eU8)] [.c (.d (.i .i64 r))]:=by
 refine fI func275 ntmps275 ?_
 refine aa H λr1 q1 H=>nA (ca (hF:=Gr q1)) ?_
 obtain⟨h,H⟩:=rq H
 refine sA (apT (enc:=eI) (ys:=[a1,a2]) (zs:=r1) h) ?_
 refine aa H λr2 q2 H=>nA (ca (hF:=fL q2)) ?_
 exact ao H
def yh (a0:Int) (r1:List Int):(Int×List Int)->Option (cq (Int×List Int) (List Int))
 |(v2,v3)=>bif ltB v2 (r1.length:Int) then(abU (ix v3 v2) λx8=>abU (eY a0 [v2]) λr9=>abU (ix v3 v2) λx10=>some (.next (WR (v2+1),(v3.set (v2).toNat (IntKind.u8.wrap (x8-(IntKind.u8.wrap (Int.tmod r9 256)))))))) else(some (.done v3))
def BW (a0:Int) (a1:List Int):Option (List Int):=
 abU (eZ a1) λr1=>abU (iter (yh a0 r1) FU (0,r1)) λ(v7:List Int)=>some v7
theorem Oi {a1:List Int} {r:List Int} (H:BW a0 a1=some r):Fn prog 217 [aI a0,aL (a1.map eU8)] [.c (.own 5 1 (r.map eU8) r.length)]:=by
 refine fI func217 ntmps217 ?_
 refine aa H λr1 q1 H=>nA (ca (hF:=ow q1)) ?_
 refine aa H λv7 Hj H=>jB ⟨[(5,.v (.c (.w 0 v7.length)))],[(0,w5 v7)],1⟩ ?_ ?_
 .refine iT Hj (λq=>⟨[(0,tI a0),(5,.v (.c (.w 0 q.2.length))),(10,tI (r1.length:Int)),(11,tI q.1)],[(0,w5 q.2)],1⟩) ?_
  rintro⟨v2,v3⟩ o H
  refine ad ?_
  refine cC H ?_ ?_<;>intro H
  .refine nO [0,1,2,3,4,5,6,7,8,9,10,11,12] (h:=?_)
   refine wkb ?_
   refine aa H λx8 hx8 H=>iS rfl (xwT hx8) ?_
   refine wkb ?_
   refine iS rfl (oe (he:=f7 _ hx8)) ?_
   refine wkb ?_
   refine uF rfl (bsx (bs rfl rfl rfl rfl rfl rfl rfl rfl) rfl) ?_
   refine wkb ?_
   refine aa H λr9 q9 H=>iS rfl (ca (hF:=fL q9)) ?_
   refine wkb ?_
   refine iS rfl (ir rfl rfl rfl (by decide)) ?_
   refine wkb ?_
   refine aa H λx10 hx10 H=>iS rfl (xwT hx10) ?_
   refine wkb ?_
   refine Gd (by kernel_rfl) rfl (by kernel_rfl) b8 (gG rfl (soT (enc:=eU8) (a':=IntKind.u8.wrap (x8-(IntKind.u8.wrap (Int.tmod r9 256)))) hx10)) b8 rfl ?_
   refine wkb ?_
   refine wI ?_
   exact aN H
  exact aE H
 exact ao H
def cO (a0:aJ) (a1:List aD):Option a9:=
 abU (lk a0) λr1=>abU (f5 a1) λr2=>some (⟨r1,r2⟩:a9)
theorem ey {a0:aJ} {a1:List aD} {r:a9} (H:cO a0 a1=some r):Fn prog 229 [.agg (cS a0),aL (a1.map c9)] [.agg (qM [.o,.o,.o] (cf r))]:=by
 refine fI func229 ntmps229 ?_
 refine aa H λr1 q1 H=>nA (ca (hF:=Av q1)) ?_
 refine aa H λr2 q2 H=>nA (ca (hF:=mt q2)) ?_
 exact ao H
def ro (a0:Int) (a1:Int) (a2:Int):Option Int:=
 abU (b9 a2 0 999999) λr1=>bif !r1 then(some (-1)) else(abU (eY a0 [5,a1,a2]) λr2=>some (WR ((WR (1000000*(Int.tmod r2 1000)))+a2)))
theorem Gy {a2:Int} (H:ro a0 a1 a2=some r):Fn prog 338 [aI a0,aI a1,aI a2] [.c (.d (.i .i64 r))]:=by
 refine fI func338 ntmps338 ?_
 refine aa H λr1 q1 H=>nA (ca (hF:=bX q1)) ?_
 refine cC H ?_ ?_<;>intro H
 .exact ao H
 refine aa H λr2 q2 H=>nA (ca (hF:=fL q2)) ?_
 refine nA (ir rfl rfl rfl (by decide)) ?_
 exact ao H
end Go.AM
