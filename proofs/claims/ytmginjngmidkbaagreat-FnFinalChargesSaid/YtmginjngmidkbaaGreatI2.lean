/- A part. -/
import Derived.Test.YtmginjngmidkbaaGreatI1
set_option linter.unusedVariables false
open Option renaming bind->abU
namespace Go.AM
open Go.Proofs
open Tryz
attribute [local irreducible] AWN NS AWO AWR AWC DR DZ dS gp iter
set_option maxRecDepth 100000
set_option maxHeartbeats 40000000
variable {a1:Int} {r:Bool}
def uO (a0:aS) (a1:Int) (a2:Int):Option Bool:=
 abU (lr a0 a1) λr1=>abU (bif r1 then(abU (ix a0.a8 a1) λx3=>abU (gI x3.cF a2) λr4=>some r4) else(some false)) λ(v2:Bool)=>some v2
instance Dn {a0:aS} {a2:Int} :FC prog (uO a0 a1 a2=some r) 104 [.agg (gu a0),aI a1,aI a2] [.c (.d (.b r))]:=gF func104 ntmps104 (hb 10 6)
def fg (a0:am) (a1:cP):Option Bool:=
 abU (fM a0) λr1=>abU (bif r1 then(abU (jt a1) λr3=>bif r3 then(abU (ml a0 a1.aC) λr4=>some (eqB r4 a1.cS)) else(some false)) else(some false)) λ(v2:Bool)=>some v2
instance Jr {a0:am} {a1:cP} :FC prog (fg a0 a1=some r) 49 [.agg (cT a0),.agg (mf a1)] [.c (.d (.b r))]:=gF func49 ntmps49 (hb 7 4)
def oy (a0:lC):Option Bool:=
 abU (gR a0.ID) λr1=>abU (bif r1 then(abU (gQ a0.fo) λr3=>bif r3 then(abU (cf a0.dv 0 999999) λr4=>some r4) else(some false)) else(some false)) λ(v2:Bool)=>some v2
instance EV {a0:lC} :FC prog (oy a0=some r) 164 [.agg (EE a0)] [.c (.d (.b r))]:=gF func164 ntmps164 (hb 6 2)
def fK (a0:aO):Option Bool:=
 abU (gR a0.ID) λr1=>abU (bif r1 then(abU (gQ a0.fo) λr3=>bif r3 then(abU (cf a0.c8 0 999999) λr4=>some r4) else(some false)) else(some false)) λ(v2:Bool)=>some v2
instance EU {a0:aO} :FC prog (fK a0=some r) 167 [.agg (dO a0)] [.c (.d (.b r))]:=gF func167 ntmps167 (hb 6 2)
def mU (a0:aP):Option aP:=
 abU (kU a0.aK) λr1=>abU (mT a0.be) λr2=>some (⟨a0.bB,r1,r2⟩:aP)
instance Dv {a0:aP} {r:aP}:FC prog (mU a0=some r) 138 [.agg (hU a0)] [.agg (qM [.o,.o] (b9 r))]:=gF func138 ntmps138 (hz 1)
def lO (a0:a9):Option a9:=
 abU (kU a0.aA) λr1=>some (⟨a0.bB,r1⟩:a9)
instance mV {a0:a9} {r:a9}:FC prog (lO a0=some r) 141 [.agg (gH a0)] [.agg (qM [.o] (dx r))]:=gF func141 ntmps141 (hz 1)
def wi (a0:ax):Option ax:=
 abU (rF a0.bC) λr1=>some {a0 with bC:=r1}
instance Xv {a0:ax} {r:ax}:FC prog (wi a0=some r) 142 [.agg (db a0)] [.agg (qM [.o] (iy r))]:=gF func142 ntmps142
def gB (a0:List am):(Int×List am)->Option (ct (Int×List am) (List am))
 |(v1,v2)=>bif ltB v1 (a0.length:Int) then(abU (ix a0 v1) λx7=>abU (eK x7) λr8=>abU (ix v2 v1) λx9=>some (.next (WR (v1+1),(v2.set (v1).toNat r8)))) else(some (.done v2))
def fD (a0:List am):Option (List am):=
 bif qB 48 (a0.length:Int) (a0.length:Int) then(abU (iter (gB a0) FU (0,(List.replicate ((a0.length:Int)).toNat i9))) λ(v6:List am)=>some v6) else none
theorem lM {a0:List am} {r:List am} (H:fD a0=some r):FnV prog 87 [] [.v (.c (.d false (.l (a0.map cT)))),.v (.c (.fn 50))] [] (.v (.c (.w 210 r.length))) [(210,w57 r)]:=by
 refine fV func87 ntmps87 ?_
 obtain⟨h,H⟩:=rq H
 refine nA (mkT (enc:=cT) (za:=i9) h (by rfl)) ?_
 refine aa H λv6 Hj H=>jB ⟨[(5,.v (.c (.w 210 v6.length)))],[(210,w57 v6)],211⟩ ?_ ?_
 .refine iT Hj (λq=>⟨[(1,.v (.c (.fn 50))),(5,.v (.c (.w 210 q.2.length))),(11,.v (.c (.d false (.l (a0.map cT))))),(12,tI (a0.length:Int)),(13,tI q.1)],[(210,w57 q.2)],211⟩) ?_
  rintro⟨v1,v2⟩ o H
  refine ad ?_
  refine cC H ?_ ?_<;>intro H
  .refine aa H λx7 hx7 H=>nA (xdT (enc:=cT) hx7) ?_
   refine aa H λr8 q8 H=>nA (PG rfl (ca (hF:=lK.h q8))) ?_
   refine aa H λx9 hx9 H=>nA (xwT hx9) ?_
   refine bG (aV (o:=212)) ?_
   refine bG (bN (k:=22)) ?_
   refine sA (soT (enc:=cT) (a':=r8) hx9) ?_
   exact aN H
  exact aE H
 cases H
 exact cg
def vg (a0:ab) (a1:Int):Option Bool:=
 abU (lr a0.ei a1) λr1=>abU (bif r1 then(bif ltB a1 6 then(bif leB 0 a1 then(some (eqB (zY .i64 (En .i64 a0.dy a1) 1) 0)) else none) else(some false)) else(some false)) λ(v2:Bool)=>some v2
instance Lr {a0:ab} :FC prog (vg a0 a1=some r) 72 [.agg (gv a0),aI a1] [.c (.d (.b r))]:=gF func72 ntmps72 (hb 9 4)
def mq (a0:Int) (a1:Int):Option Int:=
 abU (Q5 a1 2147483647) λr1=>some (Int.tmod (WR ((WR ((WR (a0*1000003))+r1))+13)) 2147483647)
instance YV {a0:Int} {r:Int}:FC prog (mq a0 a1=some r) 279 [aI a0,aI a1] [.c (.d (.i .i64 r))]:=gF func279 ntmps279
def Jo (a0:am) (a1:Int) (a2:Int):Option (am×Bool):=
 abU (eK a0) λr1=>abU (fM a0) λr2=>abU (bif !r2 then(some true) else(abU (ml a0 a1) λr4=>abU (cf a2 0 r4) λr5=>some (!r5))) λ(v3:Bool)=>bif v3 then(some (r1,false)) else(abU (eU r1 a1) λr6=>bif ltB r6 0 then(some (r1,true)) else(abU (ix r1.aj r6) λx7=>abU (ix r1.aj r6) λx8=>abU (ix (r1.aj.set (r6).toNat (⟨x8.aC,WR (x7.dW-a2)⟩:aD)) r6) λx9=>abU (bif eqB x9.dW 0 then(abU (jU {r1 with eg:=WR (r1.eg+a2),aj:=(r1.aj.set (r6).toNat (⟨x8.aC,WR (x7.dW-a2)⟩:aD))} r6) λr15=>some r15) else(some {r1 with eg:=WR (r1.eg+a2),aj:=(r1.aj.set (r6).toNat (⟨x8.aC,WR (x7.dW-a2)⟩:aD))})) λ(v14:am)=>some (v14,true)))
instance iDebit_c {a0:am} {a2:Int} {r:am×Bool}:FC prog (Jo a0 a1 a2=some r) 109 [.agg (cT a0),aI a1,aI a2] [.agg (qM [.o] (cq r.1)),.c (.d (.b r.2))]:=⟨λH=>by
 refine fI func109 ntmps109 ?_
 refine aa H λr1 q1 H=>nA (ca (hF:=lK.h q1)) ?_
 refine aa H λr2 q2 H=>nA (ca (hF:=tO.h q2)) ?_
 refine aa H λv3 Hj H=>jR ⟨[(1,tI a1),(2,tI a2),(6,tP 1),(8,tP 3),(22,tB v3)],(oM [.w 2] 3 57 (cq r1)++[(1,.var 57 (kM [.z] (cq i9)))]),4⟩ ?_ ?_
 .refine gC Hj ?_ ?_<;>intro H
  .exact ai H
  refine aa H λr4 q4 H=>nG (ca (hF:=E5.h q4)) ?_
  refine aa H λr5 q5 H=>nG (ca (hF:=iK.h q5)) ?_
  exact ai H
 refine cC H ?_ ?_<;>intro H
 .exact ao H
 refine aa H λr6 q6 H=>nA (ca (hF:=rj.h q6)) ?_
 refine cC H ?_ ?_<;>intro H
 .exact ao H
 refine aa H λx7 hx7 H=>nA (xwT hx7) ?_
 refine nA (oe (he:=ez _ hx7)) ?_
 refine aa H λx8 hx8 H=>nA (xwT hx8) ?_
 refine sA (soT (enc:=bu) (a':=(⟨x8.aC,WR (x7.dW-a2)⟩:aD)) hx8) ?_
 refine aa H λx9 hx9 H=>nA (xwT hx9) ?_
 refine nA (oe (he:=ez _ hx9)) ?_
 refine aa H λv14 Hj H=>jA ⟨[(6,tP 1),(8,tP 3)],(oM [.w 4] 3 57 (cq v14)++[(1,.var 57 (kM [.z] (cq i9)))]),5⟩ ?_ ?_
 .refine cC Hj ?_ ?_<;>intro H
  .refine aa H λr15 q15 H=>nA (ca (hF:=Af.h q15)) ?_
   cases H
   refine an (wB 2 ((r1.aj.set (r6).toNat (⟨x8.aC,WR (x7.dW-a2)⟩:aD)).length)) ?_
   exact wo
  cases H
  refine an (wB 2 ((r1.aj.set (r6).toNat (⟨x8.aC,WR (x7.dW-a2)⟩:aD)).length)) ?_
  refine an (uI (nx':=5) rfl) ?_
  refine an (wS 4 2) ?_
  exact wo
 cases H
 exact bX⟩
def DM (a0:aS) (a1:Int):Option Int:=
 abU (lr a0 a1) λr1=>bif !r1 then(some (-1)) else(abU (ix a0.a8 a1) λx2=>some x2.f6)
instance Q0 {a0:aS} {r:Int}:FC prog (DM a0 a1=some r) 306 [.agg (gu a0),aI a1] [.c (.d (.i .i64 r))]:=gF func306 ntmps306
def tX (a0:cN) (a1:aS):Option (cN×List Int):=
 bif ltB 0 a0.fA then(some ({a0 with fA:=WR (a0.fA-1)},([]:List Int))) else(abU (bif ltB a0.eX 4 then(some (WR (a0.eX+1))) else(some 1)) λ(v1:Int)=>abU (rx a1 a0.f6 v1) λr2=>some ((⟨a0.f6,v1,3⟩:cN),r2))
instance GQ {a0:cN} {a1:aS} {r:cN×List Int}:FC prog (tX a0 a1=some r) 307 [.agg (pY a0),.agg (gu a1)] [.agg (qM [] (iw r.1)),.c (.own 3 1 (r.2.map eI) r.2.length)]:=⟨λH=>by
 refine fI func307 ntmps307 ?_
 refine cC H ?_ ?_<;>intro H
 .exact ao H
 refine aa H λv1 Hj H=>jA ⟨[(2,tP 0),(3,tP 1),(4,tP 2)],[(0,.var 67 (kM [] (iw {a0 with eX:=v1}))),(1,.var 26 [.d false (.l (a1.a8.map dK))]),(2,.var 67 (kM [] (iw ed)))],3⟩ ?_ ?_
 .exact az Hj
 refine zI (List.range 9) ?_
 refine aa H λr2 q2 H=>zA (ca (hF:=EW.h q2)) ?_
 refine wA (spx 100562) ?_
 cases H
 exact bX⟩
def oA (a0:ah) (a1:Int):Option Int:=
 abU (jh a0) λr1=>abU (kD a0.bU) λr2=>abU (Xs 0 (WR ((WR (r1+a1))-r2))) λr3=>some r3
instance EY {a0:ah} {r:Int}:FC prog (oA a0 a1=some r) 310 [.agg (bZ a0),aI a1] [.c (.d (.i .i64 r))]:=gF func310 ntmps310
def tU (a1:Int) (r1:am):Int->Option (ct (Int) (Int))
 |v9=>abU (bif ltB v9 (r1.aj.length:Int) then(abU (ix r1.aj v9) λx14=>some (ltB x14.aC a1)) else(some false)) λ(v13:Bool)=>bif v13 then(some (.next (WR (v9+1)))) else(some (.done v9))
def Bc (a0:am) (a1:Int) (a2:Int):Option (am×Int):=
 abU (eK a0) λr1=>abU (fM a0) λr2=>abU (bif !r2 then(some true) else(bif ltB a1 0 then(some true) else(abU (cf a2 1 100000) λr4=>bif !r4 then(some true) else(some (eqB a0.bz 0))))) λ(v3:Bool)=>bif v3 then(some (r1,0)) else(abU (Q4 a2 a0.bz) λr5=>abU (eU a0 a1) λr6=>bif leB 0 r6 then(abU (ix r1.aj r6) λx7=>abU (ix r1.aj r6) λx8=>some ({r1 with bz:=WR (r1.bz-r5),aj:=(r1.aj.set (r6).toNat (⟨x8.aC,WR (x7.dW+r5)⟩:aD))},r5)) else(bif leB 8 (a0.aj.length:Int) then(some (r1,0)) else(abU (iter (tU a1 r1) FU 0) λ(v12:Int)=>bif da 16 (r1.aj++[df]).length then(bif eS (r1.aj++[df]) (WR (v12+1)) (r1.aj++[df]).length then(bif eS (r1.aj++[df]) v12 (r1.aj++[df]).length then(abU (ix (cpD (r1.aj++[df]) (WR (v12+1)).toNat ((r1.aj++[df]).drop (v12).toNat)) v12) λx15=>some ({r1 with bz:=WR (r1.bz-r5),aj:=((cpD (r1.aj++[df]) (WR (v12+1)).toNat ((r1.aj++[df]).drop (v12).toNat)).set (v12).toNat (⟨a1,r5⟩:aD))},r5)) else none) else none) else none)))
instance ZO {a0:am} {a2:Int} {r:am×Int}:FC prog (Bc a0 a1 a2=some r) 362 [.agg (cT a0),aI a1,aI a2] [.agg (qM [.o] (cq r.1)),.c (.d (.i .i64 r.2))]:=⟨λH=>by
 refine fI func362 ntmps362 ?_
 refine aa H λr1 q1 H=>nA (ca (hF:=lK.h q1)) ?_
 refine aa H λr2 q2 H=>nA (ca (hF:=tO.h q2)) ?_
 refine aa H λv3 Hj H=>jR ⟨[(1,tI a1),(2,tI a2),(3,tP 0),(6,tP 1),(8,tP 3),(30,tB v3)],(oM [.w 2] 3 57 (cq r1)++[(0,.var 57 (kM [.f] (cq a0))),(1,.var 57 (kM [.z] (cq i9)))]),4⟩ ?_ ?_
 .refine gC Hj ?_ ?_<;>intro H
  .exact ai H
  refine gC H ?_ ?_<;>intro H
  .exact ai H
  refine aa H λr4 q4 H=>nG (ca (hF:=iK.h q4)) ?_
  exact az H
 refine cC H ?_ ?_<;>intro H
 .exact ao H
 refine aa H λr5 q5 H=>nA (ca (hF:=Ny.h q5)) ?_
 refine aa H λr6 q6 H=>nA (ca (hF:=rj.h q6)) ?_
 refine cC H ?_ ?_<;>intro H
 .refine aa H λx7 hx7 H=>nA (xwT hx7) ?_
  refine nA (oe (he:=ez _ hx7)) ?_
  refine aa H λx8 hx8 H=>nA (xwT hx8) ?_
  refine sA (soT (enc:=bu) (a':=(⟨x8.aC,WR (x7.dW+r5)⟩:aD)) hx8) ?_
  cases H
  refine dR (wB 2 ((r1.aj.set (r6).toNat (⟨x8.aC,WR (x7.dW+r5)⟩:aD)).length)) ?_
  exact bX
 refine cC H ?_ ?_<;>intro H
 .exact ao H
 refine aa H λv12 Hj H=>jB ⟨[(1,tI a1),(6,tP 1),(8,tP 3),(9,tI r5),(11,tI v12)],(oM [.w 2] 3 57 (cq r1)++[(1,.var 57 (kM [.z] (cq i9)))]),4⟩ ?_ ?_
 .refine iT Hj (λq=>⟨[(1,tI a1),(6,tP 1),(8,tP 3),(9,tI r5),(11,tI q)],(oM [.w 2] 3 57 (cq r1)++[(1,.var 57 (kM [.z] (cq i9)))]),4⟩) ?_
  rintro v9 o H
  refine ad ?_
  refine aa H λv13 Hj H=>jR ⟨[(1,tI a1),(6,tP 1),(8,tP 3),(9,tI r5),(11,tI v9),(77,tB v13)],(oM [.w 2] 3 57 (cq r1)++[(1,.var 57 (kM [.z] (cq i9)))]),4⟩ ?_ ?_
  .refine gC Hj ?_ ?_<;>intro H
   .refine aa H λx14 hx14 H=>nG (xwT hx14) ?_
    refine nG (oe (he:=ez _ hx14)) ?_
    exact ai H
   exact ai H
  refine cC H ?_ ?_<;>intro H
  .exact aN H
  exact aE H
 obtain⟨h,H⟩:=rq H
 refine sA (apT (enc:=bu) (ys:=r1.aj) (zs:=[df]) h) ?_
 refine zI (List.range 10) ?_
 obtain⟨hs25,H⟩:=rq H
 refine zA (Nh (enc:=bu) hs25 (by first|rfl|simp) rfl rfl rfl rfl) ?_
 obtain⟨hs26,H⟩:=rq H
 refine zA (Nh (enc:=bu) hs26 (by first|rfl|simp) rfl rfl rfl rfl) ?_
 refine zB bK (fQ rfl (cpsT (enc:=bu) (ys:=(r1.aj++[df])) (zs:=(r1.aj++[df]).drop (v12).toNat) (hs:=MC (enc:=bu) hs26 (by first|rfl|simp) rfl) hs25)) bK ?_
 refine aa H λx15 hx15 H=>nA (xwT hx15) ?_
 refine sA (soT (enc:=bu) (a':=(⟨a1,r5⟩:aD)) hx15) ?_
 cases H
 refine dR (wB 2 (((cpD (r1.aj++[df]) (WR (v12+1)).toNat ((r1.aj++[df]).drop (v12).toNat)).set (v12).toNat (⟨a1,r5⟩:aD)).length)) ?_
 exact bX⟩
def rz (a0:bH) (a1:Int) (a2:Bool):Option bH:=
 abU (kn a0) λr1=>abU (bif !r1 then(some true) else(abU (cf a1 0 (WR (a0.fx-1))) λr3=>some (!r3))) λ(v2:Bool)=>bif v2 then(some a0) else(abU (bif a2 then(bif leB 0 a1 then(some (bOr .i64 a0.fB (md .i64 1 a1))) else none) else(bif leB 0 a1 then(some (vV .i64 a0.fB (md .i64 1 a1))) else none)) λ(v4:Int)=>some (⟨a0.fx,v4⟩:bH))
instance Un {a0:bH} {a2:Bool} {r:bH}:FC prog (rz a0 a1 a2=some r) 157 [.agg (je a0),aI a1,aB a2] [.agg (qM [] (eJ r))]:=⟨λH=>by
 refine fI func157 ntmps157 ?_
 refine aa H λr1 q1 H=>nA (ca (hF:=ET.h q1)) ?_
 refine aa H λv2 Hj H=>jR ⟨[(1,tI a1),(2,tB a2),(3,tP 0),(6,tP 1),(17,tB v2)],[(0,.var 32 (kM [] (eJ a0))),(1,.var 32 (kM [] (eJ pA)))],2⟩ ?_ ?_
 .refine gC Hj ?_ ?_<;>intro H
  .exact ai H
  refine aa H λr3 q3 H=>nG (ca (hF:=iK.h q3)) ?_
  exact ai H
 refine cC H ?_ ?_<;>intro H
 .exact ao H
 refine aa H λv4 Hj H=>jA ⟨[(3,tP 0),(6,tP 1)],[(0,.var 32 (kM [] (eJ (⟨a0.fx,v4⟩:bH)))),(1,.var 32 (kM [] (eJ pA)))],2⟩ ?_ ?_
 .refine cC Hj ?_ ?_<;>intro H
  .refine zI (List.range 7) ?_
   obtain⟨h,H⟩:=rq H
   refine zA (Fh h rfl rfl rfl rfl) ?_
   refine wA (spx 100673) ?_
   exact ai H
  refine zI (List.range 7) ?_
  obtain⟨h,H⟩:=rq H
  refine zA (Fh h rfl rfl rfl rfl) ?_
  refine wA (spx 100674) ?_
  exact ai H
 cases H
 exact bX⟩
def xN (a0:am) (a1:Int):Option am:=
 abU (eK a0) λr1=>abU (eU r1 a1) λr2=>abU (fM a0) λr3=>abU (bif !r3 then(some true) else(some (ltB r2 0))) λ(v4:Bool)=>bif v4 then(some r1) else(abU (ix r1.aj r2) λx5=>abU (jU {r1 with bz:=WR (r1.bz+x5.dW)} r2) λr6=>some r6)
instance ZN {a0:am} {r:am}:FC prog (xN a0 a1=some r) 52 [.agg (cT a0),aI a1] [.agg (qM [.o] (cq r))]:=gF func52 ntmps52 (hb 15 18) (hz 5)
def p3 (a0:ab) (a1:Int):Option Int:=
 abU (tZ a0 a1) λr1=>bif !r1 then(some (-1)) else(abU (ix a0.bk a1) λx2=>abU (ix a0.aF a1) λx3=>some (WR (x2.eg+x3.bU.er)))
instance Su {a0:ab} {r:Int}:FC prog (p3 a0 a1=some r) 19 [.agg (gv a0),aI a1] [.c (.d (.i .i64 r))]:=gF func19 ntmps19
def yU (a0:ab) (a1:Int):Option Bool:=
 abU (wk a0 a1) λr1=>bif !r1 then(some false) else(abU (ix a0.aF a1) λx2=>abU (ix a0.av a1) λx3=>abU (bif eqB (x3.bY.be.length:Int) (x2.aG.length:Int) then(abU (jf x2) λr5=>some (eqB r5 (x2.aG.length:Int))) else(some false)) λ(v4:Bool)=>some v4)
instance YU {a0:ab} :FC prog (yU a0 a1=some r) 21 [.agg (gv a0),aI a1] [.c (.d (.b r))]:=gF func21 ntmps21 (hb 27 4)
end Go.AM
