/- A part. -/
import Derived.Test.YtbfpkbncbebapaaGreatI2
set_option linter.unusedVariables false
open Option renaming bind->aaC
namespace Go.AM
open Go.Proofs
open Tryz
attribute [local irreducible] AWN NS AWO AWR AWC DR dO ip
set_option maxRecDepth 100000
set_option maxHeartbeats 40000000
def uX (a0:aK):Option aK:=
 aaC (qx a0.cj) λr1=>some {a0 with cj:=r1}
theorem HT {a0:aK} {r:aK} (H:uX a0=some r):Fn prog 178 [.agg (d5 a0)] [.agg (qM [.o] (lS r))]:=by
 refine fI func178 ntmps178 ?_
 refine aa H λr1 q1 H=>nA (ca (hF:=D1 q1)) ?_
 exact ao H
def ge (a0:List av):(Int×List av)->Option (cK (Int×List av) (List av))
 |(v1,v2)=>bif ltB v1 (a0.length:Int) then(aaC (ix a0 v1) λx7=>aaC (eN x7) λr8=>aaC (ix v2 v1) λx9=>some (.next (WR (v1+1),(v2.set (v1).toNat r8)))) else(some (.done v2))
def eS (a0:List av):Option (List av):=
 bif pD 48 (a0.length:Int) (a0.length:Int) then(aaC (iter (ge a0) FU (0,(List.replicate ((a0.length:Int)).toNat jn))) λ(v6:List av)=>some v6) else none
theorem kU {a0:List av} {r:List av} (H:eS a0=some r):FnV prog 110 [] [.v (.c (.d false (.l (a0.map dB)))),.v (.c (.fn 84))] [] (.v (.c (.w 210 r.length))) [(210,w89 r)]:=by
 refine fV func110 ntmps110 ?_
 obtain⟨h,H⟩:=rq H
 refine nA (mkT (enc:=dB) (za:=jn) h (by rfl)) ?_
 refine aa H λv6 Hj H=>jB ⟨[(5,.v (.c (.w 210 v6.length)))],[(210,w89 v6)],211⟩ ?_ ?_
 .refine iT Hj (λq=>⟨[(1,.v (.c (.fn 84))),(5,.v (.c (.w 210 q.2.length))),(11,.v (.c (.d false (.l (a0.map dB))))),(12,tI (a0.length:Int)),(13,tI q.1)],[(210,w89 q.2)],211⟩) ?_
  rintro⟨v1,v2⟩ o H
  try dsimp only
  refine wI ?_
  refine cC H ?_ ?_<;>intro H
  .refine aa H λx7 hx7 H=>nA (xdT (enc:=dB) hx7) ?_
   refine aa H λr8 q8 H=>nA (Ov rfl (ca (hF:=fj q8))) ?_
   refine aa H λx9 hx9 H=>nA (xwT hx9) ?_
   refine bN (bw (o:=212)) ?_
   refine bN (bJ (k:=22)) ?_
   refine sA (soT (enc:=dB) (a':=r8) hx9) ?_
   cases H
   refine eA ?_
   exact wo
  cases H
  refine et (λhq=>?_)
  cases hq
  refine wI ?_
  exact wo
 cases H
 exact cV
def lC (a0:Int) (a1:Int):Option Int:=
 aaC (PG a1 2147483647) λr1=>some (Int.tmod (WR ((WR ((WR (a0*1000003))+r1))+13)) 2147483647)
theorem wK {a0:Int} {a1:Int} {r:Int} (H:lC a0 a1=some r):Fn prog 259 [aI a0,aI a1] [.c (.d (.i .i64 r))]:=by
 refine fI func259 ntmps259 ?_
 refine aa H λr1 q1 H=>nA (ca (hF:=Me q1)) ?_
 refine nA (ir rfl rfl rfl (by decide)) ?_
 exact ao H
def HO (a0:av) (a1:Int) (a2:Int):Option (av×Bool):=
 aaC (eN a0) λr1=>aaC (gO a0) λr2=>aaC (bif !r2 then(some true) else(aaC (nD a0 a1) λr4=>aaC (bE a2 0 r4) λr5=>some (!r5))) λ(v3:Bool)=>bif v3 then(some (r1,false)) else(aaC (fO r1 a1) λr6=>bif ltB r6 0 then(some (r1,true)) else(aaC (ix r1.ay r6) λx7=>aaC (ix r1.ay r6) λx8=>aaC (ix (r1.ay.set (r6).toNat (⟨x8.aC,WR (x7.ei-a2)⟩:aY)) r6) λx9=>aaC (bif eqB x9.ei 0 then(aaC (lB {r1 with dW:=WR (r1.dW+a2),ay:=(r1.ay.set (r6).toNat (⟨x8.aC,WR (x7.ei-a2)⟩:aY))} r6) λr15=>some r15) else(some {r1 with dW:=WR (r1.dW+a2),ay:=(r1.ay.set (r6).toNat (⟨x8.aC,WR (x7.ei-a2)⟩:aY))})) λ(v14:av)=>some (v14,true)))
theorem Sp {a0:av} {a1:Int} {a2:Int} {r:av×Bool} (H:HO a0 a1 a2=some r):Fn prog 157 [.agg (dB a0),aI a1,aI a2] [.agg (qM [.o] (cT r.1)),.c (.d (.b r.2))]:=by
 refine fI func157 ntmps157 ?_
 refine aa H λr1 q1 H=>nA (ca (hF:=fj q1)) ?_
 refine aa H λr2 q2 H=>nA (ca (hF:=kx q2)) ?_
 refine aa H λv3 Hj H=>jR ⟨[(1,tI a1),(2,tI a2),(6,tP 1),(8,tP 3),(22,tB v3)],(oM [.w 2] 3 89 (cT r1)++[(1,.var 89 (kM [.z] (cT jn)))]),4⟩ ?_ ?_
 .refine gC Hj ?_ ?_<;>intro H
  .exact ai H
  refine aa H λr4 q4 H=>nG (ca (hF:=wD q4)) ?_
  refine aa H λr5 q5 H=>nG (ca (hF:=bA q5)) ?_
  exact ai H
 refine cC H ?_ ?_<;>intro H
 .exact ao H
 refine aa H λr6 q6 H=>nA (ca (hF:=lJ q6)) ?_
 refine cC H ?_ ?_<;>intro H
 .exact ao H
 refine aa H λx7 hx7 H=>nA (xwT hx7) ?_
 refine nA (oe (he:=eU _ hx7)) ?_
 refine aa H λx8 hx8 H=>nA (xwT hx8) ?_
 refine sA (soT (enc:=bQ) (a':=(⟨x8.aC,WR (x7.ei-a2)⟩:aY)) hx8) ?_
 refine aa H λx9 hx9 H=>nA (xwT hx9) ?_
 refine nA (oe (he:=eU _ hx9)) ?_
 refine aa H λv14 Hj H=>jA ⟨[(6,tP 1),(8,tP 3)],(oM [.w 4] 3 89 (cT v14)++[(1,.var 89 (kM [.z] (cT jn)))]),5⟩ ?_ ?_
 .refine cC Hj ?_ ?_<;>intro H
  .refine aa H λr15 q15 H=>nA (ca (hF:=yL q15)) ?_
   cases H
   refine aH (wB 2 ((r1.ay.set (r6).toNat (⟨x8.aC,WR (x7.ei-a2)⟩:aY)).length)) ?_
   exact wo
  cases H
  refine aH (wB 2 ((r1.ay.set (r6).toNat (⟨x8.aC,WR (x7.ei-a2)⟩:aY)).length)) ?_
  refine aH (CX (nx':=5) rfl) ?_
  refine aH (wS 4 2) ?_
  exact wo
 exact ao H
def CK (a0:aU) (a1:Int):Option Int:=
 aaC (jF a0 a1) λr1=>bif !r1 then(some (-1)) else(aaC (ix a0.aZ a1) λx2=>some x2.fJ)
theorem PF {a0:aU} {a1:Int} {r:Int} (H:CK a0 a1=some r):Fn prog 280 [.agg (lq a0),aI a1] [.c (.d (.i .i64 r))]:=by
 refine fI func280 ntmps280 ?_
 refine aa H λr1 q1 H=>nA (ca (hF:=lD q1)) ?_
 refine cC H ?_ ?_<;>intro H
 .exact ao H
 refine aa H λx2 hx2 H=>nA (xdT (enc:=dL) hx2) ?_
 exact ao H
def sK (a0:cL) (a1:aU):Option (cL×List Int):=
 bif ltB 0 a0.di then(some ({a0 with di:=WR (a0.di-1)},([]:List Int))) else(aaC (bif ltB a0.dt 4 then(some (WR (a0.dt+1))) else(some 1)) λ(v1:Int)=>aaC (qs a1 a0.fJ v1) λr2=>some ((⟨a0.fJ,v1,3⟩:cL),r2))
theorem Fk {a0:cL} {a1:aU} {r:cL×List Int} (H:sK a0 a1=some r):Fn prog 281 [.agg (xY a0),.agg (lq a1)] [.agg (qM [] (th r.1)),.c (.own 3 1 (r.2.map eI) r.2.length)]:=by
 refine fI func281 ntmps281 ?_
 refine cC H ?_ ?_<;>intro H
 .exact ao H
 refine aa H λv1 Hj H=>jA ⟨[(2,tP 0),(3,tP 1),(4,tP 2)],[(0,.var 61 (kM [] (th {a0 with dt:=v1}))),(1,.var 26 [.d false (.l (a1.aZ.map dL))]),(2,.var 61 (kM [] (th eB)))],3⟩ ?_ ?_
 .refine cC Hj ?_ ?_<;>intro H
  .exact ai H
  exact ai H
 refine zI (List.range 9) ?_
 refine aa H λr2 q2 H=>zA (ca (hF:=DT q2)) ?_
 refine wA (spx 100514) ?_
 exact ao H
def nn (a0:ae) (a1:Int):Option Int:=
 aaC (iJ a0) λr1=>aaC (jO a0.bC) λr2=>aaC (Sq 0 (WR ((WR (r1+a1))-r2))) λr3=>some r3
theorem wz {a0:ae} {a1:Int} {r:Int} (H:nn a0 a1=some r):Fn prog 284 [.agg (cG a0),aI a1] [.c (.d (.i .i64 r))]:=by
 refine fI func284 ntmps284 ?_
 refine dI ?_
 refine aa H λr1 q1 H=>dA (ca (hF:=qi q1)) ?_
 refine aa H λr2 q2 H=>dA (ca (hF:=sF q2)) ?_
 refine aa H λr3 q3 H=>dA (ca (hF:=Mc q3)) ?_
 refine wI ?_
 exact ao H
def sH (a1:Int) (r1:av):Int->Option (cK (Int) (Int))
 |v9=>aaC (bif ltB v9 (r1.ay.length:Int) then(aaC (ix r1.ay v9) λx14=>some (ltB x14.aC a1)) else(some false)) λ(v13:Bool)=>bif v13 then(some (.next (WR (v9+1)))) else(some (.done v9))
def zH (a0:av) (a1:Int) (a2:Int):Option (av×Int):=
 aaC (eN a0) λr1=>aaC (gO a0) λr2=>aaC (bif !r2 then(some true) else(bif ltB a1 0 then(some true) else(aaC (bE a2 1 100000) λr4=>bif !r4 then(some true) else(some (eqB a0.bK 0))))) λ(v3:Bool)=>bif v3 then(some (r1,0)) else(aaC (Md a2 a0.bK) λr5=>aaC (fO a0 a1) λr6=>bif leB 0 r6 then(aaC (ix r1.ay r6) λx7=>aaC (ix r1.ay r6) λx8=>some ({r1 with bK:=WR (r1.bK-r5),ay:=(r1.ay.set (r6).toNat (⟨x8.aC,WR (x7.ei+r5)⟩:aY))},r5)) else(bif leB 8 (a0.ay.length:Int) then(some (r1,0)) else(aaC (iter (sH a1 r1) FU 0) λ(v12:Int)=>bif em 16 (r1.ay++[cI]).length then(bif it (r1.ay++[cI]) (WR (v12+1)) (r1.ay++[cI]).length then(bif it (r1.ay++[cI]) v12 (r1.ay++[cI]).length then(aaC (ix (cpD (r1.ay++[cI]) (WR (v12+1)).toNat ((r1.ay++[cI]).drop (v12).toNat)) v12) λx15=>some ({r1 with bK:=WR (r1.bK-r5),ay:=((cpD (r1.ay++[cI]) (WR (v12+1)).toNat ((r1.ay++[cI]).drop (v12).toNat)).set (v12).toNat (⟨a1,r5⟩:aY))},r5)) else none) else none) else none)))
theorem Mh {a0:av} {a1:Int} {a2:Int} {r:av×Int} (H:zH a0 a1 a2=some r):Fn prog 355 [.agg (dB a0),aI a1,aI a2] [.agg (qM [.o] (cT r.1)),.c (.d (.i .i64 r.2))]:=by
 refine fI func355 ntmps355 ?_
 refine aa H λr1 q1 H=>nA (ca (hF:=fj q1)) ?_
 refine aa H λr2 q2 H=>nA (ca (hF:=kx q2)) ?_
 refine aa H λv3 Hj H=>jR ⟨[(1,tI a1),(2,tI a2),(3,tP 0),(6,tP 1),(8,tP 3),(30,tB v3)],(oM [.w 2] 3 89 (cT r1)++[(0,.var 89 (kM [.f] (cT a0))),(1,.var 89 (kM [.z] (cT jn)))]),4⟩ ?_ ?_
 .refine gC Hj ?_ ?_<;>intro H
  .exact ai H
  refine gC H ?_ ?_<;>intro H
  .exact ai H
  refine aa H λr4 q4 H=>nG (ca (hF:=bA q4)) ?_
  refine gC H ?_ ?_<;>intro H
  .exact ai H
  exact ai H
 refine cC H ?_ ?_<;>intro H
 .exact ao H
 refine aa H λr5 q5 H=>nA (ca (hF:=HQ q5)) ?_
 refine aa H λr6 q6 H=>nA (ca (hF:=lJ q6)) ?_
 refine cC H ?_ ?_<;>intro H
 .refine aa H λx7 hx7 H=>nA (xwT hx7) ?_
  refine nA (oe (he:=eU _ hx7)) ?_
  refine aa H λx8 hx8 H=>nA (xwT hx8) ?_
  refine sA (soT (enc:=bQ) (a':=(⟨x8.aC,WR (x7.ei+r5)⟩:aY)) hx8) ?_
  cases H
  refine tQ (wB 2 ((r1.ay.set (r6).toNat (⟨x8.aC,WR (x7.ei+r5)⟩:aY)).length)) ?_
  exact ku
 refine cC H ?_ ?_<;>intro H
 .exact ao H
 refine aa H λv12 Hj H=>jB ⟨[(1,tI a1),(6,tP 1),(8,tP 3),(9,tI r5),(11,tI v12)],(oM [.w 2] 3 89 (cT r1)++[(1,.var 89 (kM [.z] (cT jn)))]),4⟩ ?_ ?_
 .refine iT Hj (λq=>⟨[(1,tI a1),(6,tP 1),(8,tP 3),(9,tI r5),(11,tI q)],(oM [.w 2] 3 89 (cT r1)++[(1,.var 89 (kM [.z] (cT jn)))]),4⟩) ?_
  rintro v9 o H
  try dsimp only
  refine wI ?_
  refine aa H λv13 Hj H=>jR ⟨[(1,tI a1),(6,tP 1),(8,tP 3),(9,tI r5),(11,tI v9),(77,tB v13)],(oM [.w 2] 3 89 (cT r1)++[(1,.var 89 (kM [.z] (cT jn)))]),4⟩ ?_ ?_
  .refine gC Hj ?_ ?_<;>intro H
   .refine aa H λx14 hx14 H=>nG (xwT hx14) ?_
    refine nG (oe (he:=eU _ hx14)) ?_
    exact ai H
   exact ai H
  refine cC H ?_ ?_<;>intro H
  .cases H
   refine eA ?_
   exact wo
  cases H
  refine et (λhq=>?_)
  cases hq
  refine wI ?_
  exact wo
 obtain⟨h,H⟩:=rq H
 refine sA (apT (enc:=bQ) (ys:=r1.ay) (zs:=[cI]) h) ?_
 refine zI (List.range 10) ?_
 obtain⟨hs15,H⟩:=rq H
 refine zA (Rv (enc:=bQ) hs15 (by first|rfl|simp) rfl rfl rfl rfl) ?_
 obtain⟨hs16,H⟩:=rq H
 refine zA (Rv (enc:=bQ) hs16 (by first|rfl|simp) rfl rfl rfl rfl) ?_
 refine zB b7 (jp rfl (cpsT (enc:=bQ) (ys:=(r1.ay++[cI])) (zs:=(r1.ay++[cI]).drop (v12).toNat) (hs:=Uf (enc:=bQ) hs16 (by first|rfl|simp) rfl) hs15)) b7 ?_
 refine aa H λx15 hx15 H=>nA (xwT hx15) ?_
 refine sA (soT (enc:=bQ) (a':=(⟨a1,r5⟩:aY)) hx15) ?_
 cases H
 refine tQ (wB 2 (((cpD (r1.ay++[cI]) (WR (v12+1)).toNat ((r1.ay++[cI]).drop (v12).toNat)).set (v12).toNat (⟨a1,r5⟩:aY)).length)) ?_
 exact ku
def tZ (a0:ab) (a1:Int):Option Bool:=
 aaC (jF a0.bX a1) λr1=>aaC (bif r1 then(bif ltB a1 6 then(bif leB 0 a1 then(some (eqB (yw .i64 (Cc .i64 a0.bp a1) 1) 0)) else none) else(some false)) else(some false)) λ(v2:Bool)=>some v2
theorem JX {a0:ab} {a1:Int} {r:Bool} (H:tZ a0 a1=some r):Fn prog 90 [.agg (fC a0),aI a1] [.c (.d (.b r))]:=by
 refine fI func90 ntmps90 ?_
 refine aa H λr1 q1 H=>nA (ca (hF:=lD q1)) ?_
 refine aa H λv2 Hj H=>jR ⟨[(4,tB v2)],[],0⟩ ?_ ?_
 .refine gC Hj ?_ ?_<;>intro H
  .refine gC H ?_ ?_<;>intro H
   .obtain⟨h,H⟩:=rq H
    refine nG (XE h rfl rfl rfl rfl) ?_
    exact ai H
   exact ai H
  exact ai H
 exact ao H
def kw (a0:ab) (a1:Int):Option Bool:=
 aaC (ov a0 a1) λr1=>aaC (bif r1 then(aaC (ix a0.ah a1) λx3=>aaC (ix a0.aj a1) λx4=>aaC (sB x3.aT.bj x4.ax) λr5=>some r5) else(some false)) λ(v2:Bool)=>some v2
theorem xO {a0:ab} {a1:Int} {r:Bool} (H:kw a0 a1=some r):Fn prog 74 [.agg (fC a0),aI a1] [.c (.d (.b r))]:=by
 refine fI func74 ntmps74 ?_
 refine dI ?_
 refine aa H λr1 q1 H=>dA (ca (hF:=uZ q1)) ?_
 refine aa H λv2 Hj H=>jt ⟨[(4,tB v2)],[],0⟩ ?_ ?_
 .have H:=Hj
  refine wI ?_
  refine dC H ?_ ?_<;>intro H
  .refine aa H λx3 hx3 H=>dG (xdT (enc:=dq) hx3) ?_
   refine aa H λx4 hx4 H=>dG (xdT (enc:=cG) hx4) ?_
   refine aa H λr5 q5 H=>dG (ca (hF:=Fd q5)) ?_
   refine wI ?_
   exact ai H
  refine wI ?_
  exact ai H
 refine wI ?_
 exact ao H
def oO (a0:ab) (a1:Int):Option Int:=
 aaC (px a0 a1) λr1=>bif !r1 then(some (-1)) else(aaC (ix a0.aB a1) λx2=>aaC (ix a0.aj a1) λx3=>some (WR (x2.dW+x3.bC.d4)))
theorem Ch {a0:ab} {a1:Int} {r:Int} (H:oO a0 a1=some r):Fn prog 35 [.agg (fC a0),aI a1] [.c (.d (.i .i64 r))]:=by
 refine fI func35 ntmps35 ?_
 refine aa H λr1 q1 H=>nA (ca (hF:=ye q1)) ?_
 refine cC H ?_ ?_<;>intro H
 .exact ao H
 refine dI ?_
 refine aa H λx2 hx2 H=>dA (xdT (enc:=dB) hx2) ?_
 refine aa H λx3 hx3 H=>dA (xdT (enc:=cG) hx3) ?_
 refine wI ?_
 exact ao H
def fM (a0:ab) (a1:Int):Option Bool:=
 aaC (ov a0 a1) λr1=>aaC (bif r1 then(aaC (ix a0.aj a1) λx3=>aaC (fD x3) λr4=>aaC (ix a0.ah a1) λx5=>some (leB r4 (x5.aT.bj.length:Int))) else(some false)) λ(v2:Bool)=>some v2
theorem pP {a0:ab} {a1:Int} {r:Bool} (H:fM a0 a1=some r):Fn prog 76 [.agg (fC a0),aI a1] [.c (.d (.b r))]:=by
 refine fI func76 ntmps76 ?_
 refine dI ?_
 refine aa H λr1 q1 H=>dA (ca (hF:=uZ q1)) ?_
 refine aa H λv2 Hj H=>jt ⟨[(4,tB v2)],[],0⟩ ?_ ?_
 .have H:=Hj
  refine wI ?_
  refine dC H ?_ ?_<;>intro H
  .refine aa H λx3 hx3 H=>dG (xdT (enc:=cG) hx3) ?_
   refine aa H λr4 q4 H=>dG (ca (hF:=ju q4)) ?_
   refine aa H λx5 hx5 H=>dG (xdT (enc:=dq) hx5) ?_
   refine wI ?_
   exact ai H
  refine wI ?_
  exact ai H
 refine wI ?_
 exact ao H
def xr (a0:ab) (a1:Int):Option Bool:=
 aaC (ov a0 a1) λr1=>bif !r1 then(some false) else(aaC (ix a0.aj a1) λx2=>aaC (ix a0.ah a1) λx3=>aaC (bif eqB (x3.aT.bj.length:Int) (x2.ax.length:Int) then(aaC (fD x2) λr5=>some (eqB r5 (x2.ax.length:Int))) else(some false)) λ(v4:Bool)=>some v4)
theorem JY {a0:ab} {a1:Int} {r:Bool} (H:xr a0 a1=some r):Fn prog 29 [.agg (fC a0),aI a1] [.c (.d (.b r))]:=by
 refine fI func29 ntmps29 ?_
 refine aa H λr1 q1 H=>nA (ca (hF:=uZ q1)) ?_
 refine cC H ?_ ?_<;>intro H
 .exact ao H
 refine aa H λx2 hx2 H=>nA (xdT (enc:=cG) hx2) ?_
 refine dI ?_
 refine aa H λx3 hx3 H=>dA (xdT (enc:=dq) hx3) ?_
 refine aa H λv4 Hj H=>jt ⟨[(4,tB v4)],[],0⟩ ?_ ?_
 .have H:=Hj
  refine wI ?_
  refine dC H ?_ ?_<;>intro H
  .refine aa H λr5 q5 H=>dG (ca (hF:=ju q5)) ?_
   refine wI ?_
   exact ai H
  refine wI ?_
  exact ai H
 refine wI ?_
 exact ao H
end Go.AM
