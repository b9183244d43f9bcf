/- A part. -/
import Derived.Test.YtmginjngmidkbaaGreatS0
set_option linter.unusedVariables false
open Option renaming bind->abU
namespace Go.AM
open Go.Proofs
open Tryz
attribute [local irreducible] AWN NS AWO AWR AWC DR DZ dS gp iter
set_option maxRecDepth 100000
set_option maxHeartbeats 40000000
variable {a1:Int} {r:Bool}
def cO (a0:bj) (a1:Int):Option (Int×bj):=
 bif leB a1 0 then(some (0,a0)) else(bif leB a1 256 then(abU (ur a0) λr1=>bif !eqB a1 0 then(some (Int.tmod r1.1 a1,r1.2)) else none) else(abU (ur a0) λr2=>abU (ur r2.2) λr3=>abU (ur r3.2) λr4=>bif !eqB a1 0 then(some (Int.tmod (WR ((WR ((WR (r2.1*65536))+(WR (r3.1*256))))+r4.1)) a1,r4.2)) else none))
theorem cp {a0:bj} {r:Int×bj} (H:cO a0 a1=some r):FnW prog 113 (.var 135 (kM [.f] (co a0))) [tP 200,tI a1] (.var 135 (kM [.f] (co r.2))) [.c (.d (.i .i64 r.1))]:=by
 refine fW func113 ntmps113 ?_
 refine cC H ?_ ?_<;>intro H
 .cases H
  exact f9
 refine cC H ?_ ?_<;>intro H
 .refine aa H λr1 q1 H=>sA (cw (o:=200) (vH q1)) ?_
  obtain⟨h,H⟩:=rq H
  refine nA (ir rfl rfl rfl (ne0 h)) ?_
  cases H
  exact f9
 refine aa H λr2 q2 H=>sA (cw (o:=200) (vH q2)) ?_
 refine aa H λr3 q3 H=>sA (cw (o:=200) (vH q3)) ?_
 refine aa H λr4 q4 H=>sA (cw (o:=200) (vH q4)) ?_
 obtain⟨h,H⟩:=rq H
 refine nA (ir rfl rfl rfl (ne0 h)) ?_
 cases H
 exact f9
def oX (a0:aS) (v1:Int) (x2:fy):Int->Option (ct (Int) (ct (Int) (Bool)))
 |v4=>bif ltB v4 (x2.cF.length:Int) then(abU (ix x2.cF v4) λx5=>abU (du x5 0 (WR ((a0.a8.length:Int)-1))) λr6=>abU (bif !r6 then(some true) else(bif eqB x5 v1 then(some true) else(bif ltB 0 v4 then(abU (ix x2.cF (WR (v4-1))) λx8=>bif leB x5 x8 then(some true) else(abU (ix a0.a8 x5) λx9=>abU (BJ x9.cF v1) λr10=>some (!r10))) else(abU (ix a0.a8 x5) λx11=>abU (BJ x11.cF v1) λr12=>some (!r12))))) λ(v7:Bool)=>bif v7 then(dn (dn (some false))) else(some (.next (WR (v4+1))))) else(dn (some (.next (WR (v1+1)))))
def oW (a0:aS):Int->Option (ct (Int) (Bool))
 |v1=>bif ltB v1 (a0.a8.length:Int) then(abU (ix a0.a8 v1) λx2=>abU (du x2.f6 0 2) λr3=>bif !r3 then(dn (some false)) else(iter (oX a0 v1 x2) FU 0)) else(dn (abU (du (a0.a8.length:Int) 1 6) λr13=>some r13))
def qF (a0:aS):Option Bool:=
 iter (oW a0) FU 0
instance Hb {a0:aS} :FC prog (qF a0=some r) 120 [.agg (gu a0)] [.c (.d (.b r))]:=gF func120 ntmps120 (hl 0 3) (hl 2 5) (hb 42 71)
def g9 (a0:bP):Int->Option (ct (Int) (Bool))
 |v1=>bif ltB v1 (a0.bJ.length:Int) then(abU (ix a0.bJ v1) λx2=>abU (du x2 0 3) λr3=>abU (bif !r3 then(some true) else(bif ltB 0 v1 then(abU (ix a0.bJ (WR (v1-1))) λx5=>abU (ix a0.bJ v1) λx6=>some (leB x6 x5)) else(some false))) λ(v4:Bool)=>bif v4 then(dn (some false)) else(some (.next (WR (v1+1))))) else(dn (abU (du a0.jM 1 1000) λr7=>abU (bif r7 then(abU (du a0.jJ 1 4) λr9=>bif r9 then(abU (du a0.et 1 100000) λr10=>some r10) else(some false)) else(some false)) λ(v8:Bool)=>some v8))
def gX (a0:bP):Option Bool:=
 iter (g9 a0) FU 0
instance wz {a0:bP} :FC prog (gX a0=some r) 244 [.agg (lE a0)] [.c (.d (.b r))]:=gF func244 ntmps244 (hl 0 3) (hb 18 35) (hb 39 2)
def iA (a0:Int):Option Bool:=
 abU (du a0 1 2147483646) λr1=>some r1
instance Ha {a0:Int} :FC prog (iA a0=some r) 280 [aI a0] [.c (.d (.b r))]:=gF func280 ntmps280
def gW (a0:dw):Option Bool:=
 abU (du a0.dZ 0 3) λr1=>abU (bif r1 then(abU (du a0.bW 0 99) λr3=>some r3) else(some false)) λ(v2:Bool)=>some v2
instance J6 {a0:dw} :FC prog (gW a0=some r) 332 [.agg (om a0)] [.c (.d (.b r))]:=gF func332 ntmps332 (hb 6 2)
def ui (a0:aO) (a1:bP) (a2:Int):Option ah:=
 abU (vM a1) λr1=>some {pX with bE:=a0,gG:=r1,aw:=(⟨1,[]⟩:a9),bU:={QB with aC:=a2}}
instance Hg {a0:aO} {a1:bP} {a2:Int} {r:ah}:FC prog (ui a0 a1 a2=some r) 247 [.agg (dO a0),.agg (lE a1),aI a2] [.agg (qM [.o,.z,.z] (c7 r))]:=gF func247 ntmps247 (hz 1)
def ug (a0:Int):Option am:=
 abU (du a0 0 100000) λr1=>abU (bif !r1 then(some 0) else(some a0)) λ(v2:Int)=>some {i9 with eE:=v2,bz:=v2}
instance Hf {a0:Int} {r:am}:FC prog (ug a0=some r) 248 [aI a0] [.agg (qM [.z] (cq r))]:=gF func248 ntmps248 (hi 5 0)
def nR (a0:a9):Option a9:=
 abU (vJ a0.aA) λr1=>some (⟨a0.bB,r1⟩:a9)
instance pj {a0:a9} {r:a9}:FC prog (nR a0=some r) 258 [.agg (gH a0)] [.agg (qM [.o] (dx r))]:=gF func258 ntmps258 (hz 1)
def Df (a1:Int):(Int×List Int×bj)->Option (ct (Int×List Int×bj) (List Int×bj))
 |(v1,v5,v6)=>bif ltB v1 a1 then(abU (ur v6) λr13=>bif da 1 (v5++[IntKind.u8.wrap (r13.1)]).length then(some (.next (WR (v1+1),(v5++[IntKind.u8.wrap (r13.1)]),r13.2))) else none) else(some (.done (v5,v6)))
def yv (a0:bj) (a1:Int):Option (List Int×bj):=
 abU (iter (Df a1) FU (0,([]:List Int),a0)) λ((v11,v12):List Int×bj)=>some (v11,v12)
theorem Gh {a0:bj} {r:List Int×bj} (H:yv a0 a1=some r):FnW prog 179 (.var 135 (kM [.f] (co a0))) [tP 200,tI a1] (.var 135 (kM [.f] (co r.2))) [.c (.own 5 1 (r.1.map eU8) r.1.length)]:=by
 refine fW func179 ntmps179 ?_
 obtain⟨⟨v11,v12⟩,Hj,H⟩:=ob H
 refine jB ⟨[(5,.v (.c (.w 210 v11.length)))],[(200,.var 135 (kM [.f] (co v12))),(210,w5 v11)],211⟩ ?_ ?_
 .refine iT Hj (λq=>⟨[(0,tP 200),(1,tI a1),(5,.v (.c (.w 210 q.2.1.length))),(6,tI q.1)],[(200,.var 135 (kM [.f] (co q.2.2))),(210,w5 q.2.1)],211⟩) ?_
  rintro⟨v1,v5,v6⟩ o H
  refine ad ?_
  refine cC H ?_ ?_<;>intro H
  .refine aa H λr13 q13 H=>sA (cw (o:=200) (vH q13)) ?_
   obtain⟨h,H⟩:=rq H
   refine sA (apT (enc:=eU8) (ys:=v5) (zs:=[IntKind.u8.wrap (r13.1)]) h) ?_
   exact aN H
  exact aE H
 cases H
 exact f9
def yw (a0:aP):Option aP:=
 abU (vJ a0.aK) λr1=>abU (tf a0.be) λr2=>some (⟨a0.bB,r1,r2⟩:aP)
instance Ok {a0:aP} {r:aP}:FC prog (yw a0=some r) 255 [.agg (hU a0)] [.agg (qM [.o,.o] (b9 r))]:=gF func255 ntmps255 (hz 1)
def tl (a0:bS):Option bS:=
 abU (BN a0.cA) λr1=>some {a0 with cA:=r1}
instance BQ {a0:bS} {r:bS}:FC prog (tl a0=some r) 187 [.agg (eb a0)] [.agg (qM [.o] (mN r))]:=gF func187 ntmps187
def mw (a0:bH):Option Bool:=
 abU (du a0.fx 1 6) λr1=>abU (bif r1 then(bif leB 0 a0.fx then(abU (du a0.fB 0 (WR ((md .i64 1 a0.fx)-1))) λr3=>some r3) else none) else(some false)) λ(v2:Bool)=>some v2
instance FN {a0:bH} :FC prog (mw a0=some r) 121 [.agg (je a0)] [.c (.d (.b r))]:=gF func121 ntmps121 (hb 6 2)
def im (a0:aP):Int->Option (ct (Int) (Bool))
 |v9=>bif ltB v9 (a0.be.length:Int) then(abU (ix a0.be v9) λx10=>bif ltB 60 (x10.bb.length:Int) then(dn (some false)) else(some (.next (WR (v9+1))))) else(dn (abU (bif eqB a0.bB (WR ((a0.be.length:Int)+1)) then(bif leB (a0.be.length:Int) 24 then(some (leB (a0.aK.length:Int) 8)) else(some false)) else(some false)) λ(v11:Bool)=>some v11))
def jG (a0:aP):Int->Option (ct (Int) (Bool))
 |v1=>bif ltB v1 (a0.aK.length:Int) then(abU (ix a0.aK v1) λx2=>abU (du x2.c8 (WR (a0.bB+1)) (WR ((WR (a0.bB+8))-1))) λr3=>abU (bif !r3 then(some true) else(bif ltB 0 v1 then(abU (ix a0.aK (WR (v1-1))) λx5=>abU (ix a0.aK v1) λx6=>bif leB x6.c8 x5.c8 then(some true) else(abU (ix a0.aK v1) λx7=>some (ltB 60 (x7.bb.length:Int)))) else(abU (ix a0.aK v1) λx8=>some (ltB 60 (x8.bb.length:Int))))) λ(v4:Bool)=>bif v4 then(dn (some false)) else(some (.next (WR (v1+1))))) else(dn (iter (im a0) FU 0))
def jY (a0:aP):Option Bool:=
 iter (jG a0) FU 0
instance Ap {a0:aP} :FC prog (jY a0=some r) 282 [.agg (hU a0)] [.c (.d (.b r))]:=gF func282 ntmps282 (hl 0 3) (hb 27 56) (hl 2 4) (hb 79 2)
def iB (a0:cP):Option Bool:=
 abU (bif leB 0 a0.aC then(abU (du a0.cS 0 100000) λr2=>bif r2 then(abU (du a0.er 0 a0.cS) λr3=>some r3) else(some false)) else(some false)) λ(v1:Bool)=>some v1
instance SL {a0:cP} :FC prog (iB a0=some r) 132 [.agg (mf a0)] [.c (.d (.b r))]:=gF func132 ntmps132 (hb 6 2)
def oY (a0:cN):Option Bool:=
 abU (du a0.f6 0 2) λr1=>abU (bif r1 then(abU (du a0.eX 0 4) λr3=>bif r3 then(abU (du a0.fA 0 3) λr4=>some r4) else(some false)) else(some false)) λ(v2:Bool)=>some v2
instance RT {a0:cN} :FC prog (oY a0=some r) 284 [.agg (pY a0)] [.c (.d (.b r))]:=gF func284 ntmps284 (hb 6 2)
def lx (a0:a9):Int->Option (ct (Int) (Bool))
 |v1=>bif ltB v1 (a0.aA.length:Int) then(abU (ix a0.aA v1) λx2=>abU (bif !eqB x2.c8 (WR ((WR (a0.bB-(a0.aA.length:Int)))+v1)) then(some true) else(abU (ix a0.aA v1) λx4=>some (ltB 60 (x4.bb.length:Int)))) λ(v3:Bool)=>bif v3 then(dn (some false)) else(some (.next (WR (v1+1))))) else(dn (abU (du a0.bB 1 100000) λr5=>abU (bif r5 then(bif leB (a0.aA.length:Int) 8 then(some (leB 1 (WR (a0.bB-(a0.aA.length:Int))))) else(some false)) else(some false)) λ(v6:Bool)=>some v6))
def lW (a0:a9):Option Bool:=
 iter (lx a0) FU 0
instance vA {a0:a9} :FC prog (lW a0=some r) 333 [.agg (gH a0)] [.c (.d (.b r))]:=gF func333 ntmps333 (hl 0 3) (hb 26 35) (hb 39 2)
def kw (a0:am):Int->Option (ct (Int) (Bool))
 |v1=>bif ltB v1 (a0.aj.length:Int) then(abU (ix a0.aj v1) λx2=>abU (bif ltB x2.aC 0 then(some true) else(abU (ix a0.aj v1) λx4=>abU (du x4.dW 1 100000) λr5=>bif !r5 then(some true) else(bif ltB 0 v1 then(abU (ix a0.aj (WR (v1-1))) λx6=>abU (ix a0.aj v1) λx7=>some (leB x7.aC x6.aC)) else(some false)))) λ(v3:Bool)=>bif v3 then(dn (some false)) else(some (.next (WR (v1+1))))) else(dn (abU (du a0.eE 0 100000) λr8=>abU (bif r8 then(abU (du a0.bz 0 a0.eE) λr10=>bif r10 then(abU (du a0.eg 0 a0.eE) λr11=>bif r11 then(bif leB (a0.aj.length:Int) 8 then(abU (pc a0) λr12=>some (eqB (WR ((WR (a0.bz+a0.eg))+r12)) a0.eE)) else(some false)) else(some false)) else(some false)) else(some false)) λ(v9:Bool)=>some v9))
def ig (a0:am):Option Bool:=
 iter (kw a0) FU 0
instance BD {a0:am} :FC prog (ig a0=some r) 205 [.agg (cT a0)] [.c (.d (.b r))]:=gF func205 ntmps205 (hl 0 3) (hb 18 47) (hb 51 2)
def pa (a0:am) (a1:Int):Option Int:=
 abU (qJ a0 a1) λr1=>bif ltB r1 0 then(some 0) else(abU (ix a0.aj r1) λx2=>some x2.dW)
instance F2 {a0:am} {r:Int}:FC prog (pa a0 a1=some r) 287 [.agg (cT a0),aI a1] [.c (.d (.i .i64 r))]:=gF func287 ntmps287
def ky (a0:ab) (a1:bS):Option Bool:=
 abU (bif ltB (a0.aT.length:Int) 200 then(abU (du a1.bm 0 (WR ((a0.av.length:Int)-1))) λr2=>bif r2 then(abU (du a1.bg 0 (WR ((a0.ei.a8.length:Int)-1))) λr3=>some r3) else(some false)) else(some false)) λ(v1:Bool)=>some v1
instance Gs {a0:ab} {a1:bS} :FC prog (ky a0 a1=some r) 64 [.agg (gv a0),.agg (eb a1)] [.c (.d (.b r))]:=gF func64 ntmps64 (hb 9 4)
def uT (a0:bv) (a1:bv):Option Bool:=
 abU (bif eqB a0.cY a1.cY then(bif eqB a0.fU a1.fU then(bif eqB a0.jE a1.jE then(abU (qD a0.bb a1.bb) λr2=>some r2) else(some false)) else(some false)) else(some false)) λ(v1:Bool)=>some v1
instance SJ {a0:bv} {a1:bv} :FC prog (uT a0 a1=some r) 207 [.agg (eQ a0),.agg (eQ a1)] [.c (.d (.b r))]:=gF func207 ntmps207 (hb 10 4)
def kO (a0:bv):Option Bool:=
 abU (du a0.cY 0 1) λr1=>abU (bif r1 then(abU (du a0.fU 1 100000) λr3=>bif r3 then(bif leB (a0.bb.length:Int) 60 then(abU (du a0.jE 0 2147483646) λr4=>some r4) else(some false)) else(some false)) else(some false)) λ(v2:Bool)=>some v2
instance Qc {a0:bv} :FC prog (kO a0=some r) 124 [.agg (eQ a0)] [.c (.d (.b r))]:=gF func124 ntmps124 (hb 6 2)
def Hc (a0:Int) (a1:Int):Option Int:=
 abU (du a1 1 1000000000000) λr1=>bif !r1 then(some 0) else(bif !eqB a1 0 then(bif !eqB a1 0 then(some (Int.tmod (WR ((Int.tmod a0 a1)+a1)) a1)) else none) else none)
instance sMod_c {a0:Int} {r:Int}:FC prog (Hc a0 a1=some r) 292 [aI a0,aI a1] [.c (.d (.i .i64 r))]:=⟨λH=>by
 refine fI func292 ntmps292 ?_
 refine aa H λr1 q1 H=>nA (ca (hF:=nC.h q1)) ?_
 refine cC H ?_ ?_<;>intro H
 .exact ao H
 obtain⟨h,H⟩:=rq H
 refine nA (ir rfl rfl rfl (ne0 h)) ?_
 obtain⟨h,H⟩:=rq H
 refine nA (ir rfl rfl rfl (ne0 h)) ?_
 cases H
 exact bX⟩
def ij (a0:aS) (a2:Int):(Int×List Int)->Option (ct (Int×List Int) (List Int))
 |(v3,v4)=>abU (bif ltB v3 (a0.a8.length:Int) then(abU (du a2 1 4) λr9=>some r9) else(some false)) λ(v8:Bool)=>bif v8 then(bif da 8 (v4++[v3]).length then(some (.next (WR (v3+1),(v4++[v3])))) else none) else(some (.done v4))
def rP (a0:aS) (a1:Int) (a2:Int):Option (List Int):=
 abU (rL a0 a1) λr1=>abU (bif eqB a2 1 then(some (ltB 0 (r1.length:Int))) else(some false)) λ(v2:Bool)=>bif v2 then(some r1) else(abU (iter (ij a0 a2) FU (0,([]:List Int))) λ(v7:List Int)=>some v7)
instance FW {a0:aS} {a2:Int} {r:List Int}:FC prog (rP a0 a1 a2=some r) 364 [.agg (gu a0),aI a1,aI a2] [.c (.own 3 1 (r.map eI) r.length)]:=⟨λH=>by
 refine fI func364 ntmps364 ?_
 refine aa H λr1 q1 H=>nA (ca (hF:=FL.h q1)) ?_
 refine aa H λv2 Hj H=>jR ⟨[(2,tI a2),(3,tP 0),(7,.v (.c (.w 1 r1.length))),(19,tB v2)],[(0,.var 26 [.d false (.l (a0.a8.map dK))]),(1,w3 r1)],2⟩ ?_ ?_
 .exact az Hj
 refine cC H ?_ ?_<;>intro H
 .exact ao H
 refine aa H λv7 Hj H=>jB ⟨[(8,.v (.c (.w 2 v7.length)))],[(2,w3 v7)],3⟩ ?_ ?_
 .refine iT Hj (λq=>⟨[(2,tI a2),(3,tP 0),(8,.v (.c (.w 2 q.2.length))),(9,tI q.1)],[(0,.var 26 [.d false (.l (a0.a8.map dK))]),(2,w3 q.2)],3⟩) ?_
  rintro⟨v3,v4⟩ o H
  refine ad ?_
  refine aa H λv8 Hj H=>jR ⟨[(2,tI a2),(3,tP 0),(8,.v (.c (.w 2 v4.length))),(9,tI v3),(30,tB v8)],[(0,.var 26 [.d false (.l (a0.a8.map dK))]),(2,w3 v4)],3⟩ ?_ ?_
  .refine gC Hj ?_ ?_<;>intro H
   .refine aa H λr9 q9 H=>nG (ca (hF:=nC.h q9)) ?_
    exact ai H
   exact ai H
  refine cC H ?_ ?_<;>intro H
  .obtain⟨h,H⟩:=rq H
   refine sA (apT (enc:=eI) (ys:=v4) (zs:=[v3]) h) ?_
   exact aN H
  exact aE H
 cases H
 exact bX⟩
def o4 (a0:ah):Option Int:=
 abU (pV a0.aw.aA) λr1=>some r1
instance M4 {a0:ah} {r:Int}:FC prog (o4 a0=some r) 366 [.agg (bZ a0)] [.c (.d (.i .i64 r))]:=gF func366 ntmps366
def wN (a0:List aD) (a1:Int):Int->Option (ct (Int) (Int))
 |v1=>abU (bif ltB v1 (a0.length:Int) then(abU (ix a0 v1) λx6=>some (ltB x6.aC a1)) else(some false)) λ(v5:Bool)=>bif v5 then(some (.next (WR (v1+1)))) else(some (.done v1))
def DY (a0:List aD) (a1:Int) (a2:Int):Option (List aD):=
 abU (iter (wN a0 a1) FU 0) λ(v4:Int)=>abU (bif ltB v4 (a0.length:Int) then(abU (ix a0 v4) λx8=>some (eqB x8.aC a1)) else(some false)) λ(v7:Bool)=>bif v7 then(bif da 16 (([]:List aD)++a0).length then(abU (ix (([]:List aD)++a0) v4) λx9=>abU (ix (([]:List aD)++a0) v4) λx10=>some ((([]:List aD)++a0).set (v4).toNat (⟨x10.aC,WR (x9.dW+a2)⟩:aD))) else none) else(bif eS a0 0 v4 then(bif eS a0 v4 a0.length then(bif da 16 (([]:List aD)++(a0.take (v4).toNat)).length then(bif da 16 ((([]:List aD)++(a0.take (v4).toNat))++[(⟨a1,a2⟩:aD)]).length then(bif da 16 (((([]:List aD)++(a0.take (v4).toNat))++[(⟨a1,a2⟩:aD)])++(a0.drop (v4).toNat)).length then(some (((([]:List aD)++(a0.take (v4).toNat))++[(⟨a1,a2⟩:aD)])++(a0.drop (v4).toNat))) else none) else none) else none) else none) else none)
instance sl16Add_c {a0:List aD} {a2:Int} {r:List aD}:FC prog (DY a0 a1 a2=some r) 380 [aL (a0.map bu),aI a1,aI a2] [.c (.own 115 2 (r.map bu) r.length)]:=⟨λH=>by
 refine fI func380 ntmps380 ?_
 refine aa H λv4 Hj H=>jB ⟨[(0,.v (.c (.d false (.l (a0.map bu))))),(1,tI a1),(2,tI a2),(7,tI v4)],[],0⟩ ?_ ?_
 .refine iT Hj (λq=>⟨[(0,.v (.c (.d false (.l (a0.map bu))))),(1,tI a1),(2,tI a2),(7,tI q)],[],0⟩) ?_
  rintro v1 o H
  refine ad ?_
  refine aa H λv5 Hj H=>jR ⟨[(0,.v (.c (.d false (.l (a0.map bu))))),(1,tI a1),(2,tI a2),(7,tI v1),(21,tB v5)],[],0⟩ ?_ ?_
  .refine gC Hj ?_ ?_<;>intro H
   .refine aa H λx6 hx6 H=>nG (xdT (enc:=bu) hx6) ?_
    exact ai H
   exact ai H
  refine cC H ?_ ?_<;>intro H
  .exact aN H
  exact aE H
 refine aa H λv7 Hj H=>jR ⟨[(0,.v (.c (.d false (.l (a0.map bu))))),(1,tI a1),(2,tI a2),(7,tI v4),(36,tB v7)],[],0⟩ ?_ ?_
 .refine gC Hj ?_ ?_<;>intro H
  .refine aa H λx8 hx8 H=>nG (xdT (enc:=bu) hx8) ?_
   exact ai H
  exact ai H
 refine cC H ?_ ?_<;>intro H
 .obtain⟨h,H⟩:=rq H
  refine eZ rfl (apT (enc:=bu) (ys:=([]:List aD)) (zs:=a0) h) ?_
  refine aW (gA (enc:=bu) (o:=0)) ?_
  refine aa H λx9 hx9 H=>nA (xwT hx9) ?_
  refine nA (oe (he:=ez _ hx9)) ?_
  refine aa H λx10 hx10 H=>nA (xwT hx10) ?_
  refine sA (soT (enc:=bu) (a':=(⟨x10.aC,WR (x9.dW+a2)⟩:aD)) hx10) ?_
  exact ao H
 refine zI [0,1,2,3,5,6,7,8,10,11,12,4,9,13,14] ?_
 obtain⟨h,H⟩:=rq H
 refine zA (WV (enc:=bu) h (λ_=>rfl) rfl rfl rfl) ?_
 obtain⟨h,H⟩:=rq H
 refine zA (QM (enc:=bu) h (λ_=>rfl) rfl rfl rfl) ?_
 obtain⟨h,H⟩:=rq H
 refine wA (GI (enc:=bu) (ys:=([]:List aD)) (zs:=a0.take (v4).toNat) [0] h) ?_
 obtain⟨h,H⟩:=rq H
 refine wA (GI (enc:=bu) (ys:=(([]:List aD)++(a0.take (v4).toNat))) (zs:=[(⟨a1,a2⟩:aD)]) [2,1] h) ?_
 obtain⟨h,H⟩:=rq H
 refine wA (GI (enc:=bu) (ys:=((([]:List aD)++(a0.take (v4).toNat))++[(⟨a1,a2⟩:aD)])) (zs:=a0.drop (v4).toNat) [3] h) ?_
 refine nn (ds:=[0,2,3]) (by kernel_rfl) (by kernel_rfl) rfl ?_
 refine wI ?_
 cases H
 exact bX⟩
def vz (a0:ab) (a1:Int):Option Bool:=
 abU (FT (a0.ei.a8.length:Int) 6) λr1=>abU (du a1 0 (WR (r1-1))) λr2=>abU (bif r2 then(bif leB 0 a1 then(some (eqB (zY .i64 (En .i64 a0.dy a1) 1) 0)) else none) else(some false)) λ(v3:Bool)=>some v3
instance C9 {a0:ab} :FC prog (vz a0 a1=some r) 74 [.agg (gv a0),aI a1] [.c (.d (.b r))]:=gF func74 ntmps74 (hb 13 4)
def yD (a0:ab) (a1:Int):Option (bS×ab):=
 abU (ix a0.aT a1) λx1=>bif eS a0.aT 0 a1 then(bif eS a0.aT (WR (a1+1)) a0.aT.length then(bif da 176 (([]:List bS)++(a0.aT.take (a1).toNat)).length then(bif da 176 ((([]:List bS)++(a0.aT.take (a1).toNat))++(a0.aT.drop (WR (a1+1)).toNat)).length then(some (x1,{a0 with aT:=((([]:List bS)++(a0.aT.take (a1).toNat))++(a0.aT.drop (WR (a1+1)).toNat))})) else none) else none) else none) else none
theorem Gu {a0:ab} {r:bS×ab} (H:yD a0 a1=some r):FnV prog 268 (nS a0) [tP 200,tI a1] (nS r.2) (.v (.agg (kM [.t] (mN r.1)))) []:=by
 refine fV func268 ntmps268 ?_
 refine aa H λx1 hx1 H=>bG (mc 193 (hne:=xW (enc:=eb) hx1)) ?_
 refine nA (xwT hx1) ?_
 refine nA (oea (he:=ez _ hx1)) ?_
 refine zI [0,1,2,3,4,5,6,7,9,10,11,12,13,14,15,8,16,17,18,19] ?_
 obtain⟨hs5,H⟩:=rq H
 refine zA (Zv (enc:=eb) hs5 (by first|rfl|simp) rfl rfl rfl rfl) ?_
 obtain⟨hs6,H⟩:=rq H
 refine zA (Nh (enc:=eb) hs6 (by first|rfl|simp) rfl rfl rfl rfl) ?_
 obtain⟨h,H⟩:=rq H
 refine wA (apx (enc:=eb) (ys:=([]:List bS)) (zs:=a0.aT.take (a1).toNat) [212,193] h (hs:=VU (enc:=eb) hs5 rfl)) ?_
 obtain⟨h,H⟩:=rq H
 refine wA (apx (enc:=eb) (ys:=(([]:List bS)++(a0.aT.take (a1).toNat))) (zs:=a0.aT.drop (WR (a1+1)).toNat) [213,193] h (hs:=MC (enc:=eb) hs6 (by first|rfl|simp) rfl)) ?_
 refine wA (spx 100410) ?_
 refine nn (ds:=[212,213]) (by kernel_rfl) (by kernel_rfl) rfl ?_
 refine wI ?_
 cases H
 refine bF (MS 193 214) ?_
 refine bF ((ec 193)) ?_
 exact cg
def lX (a0:aH):Option Bool:=
 abU (du a0.bh 1 8) λr1=>abU (bif r1 then(abU (du a0.bg 0 5) λr3=>bif r3 then(abU (du a0.ag 0 999999) λr4=>bif r4 then(abU (du a0.aX 0 999999) λr5=>bif r5 then(abU (du a0.bW 0 1000000000000) λr6=>some r6) else(some false)) else(some false)) else(some false)) else(some false)) λ(v2:Bool)=>some v2
instance vB {a0:aH} :FC prog (lX a0=some r) 351 [.agg (cZ a0)] [.c (.d (.b r))]:=gF func351 ntmps351 (hb 6 2)
def pU (a0:cE) (a1:Int):Option Bool:=
 some (eqB a1 a0.yI)
instance N5 {a0:cE} :FC prog (pU a0 a1=some r) 368 [.agg (me a0),aI a1] [.c (.d (.b r))]:=gF func368 ntmps368
def ut (a0:List ae) (a1:Int):Int->Option (ct (Int) (Int))
 |v1=>bif ltB v1 (a0.length:Int) then(abU (ix a0 v1) λx2=>bif eqB x2.c8 a1 then(dn (some v1)) else(some (.next (WR (v1+1))))) else(dn (some (-1)))
def Gi (a0:List ae) (a1:Int):Option Int:=
 iter (ut a0 a1) FU 0
instance Oj {a0:List ae} {r:Int}:FC prog (Gi a0 a1=some r) 374 [aL (a0.map aM),aI a1] [.c (.d (.i .i64 r))]:=gF func374 ntmps374 (hl 0 5)
def BL (a0:List Int) (a1:Int):Option Int:=
 bif ltB a1 (WR (3+(WR (Int.tdiv (a0.length:Int) 12)))) then(some a1) else(some (WR (3+(WR (Int.tdiv (a0.length:Int) 12)))))
instance Sc {a0:List Int} {r:Int}:FC prog (BL a0 a1=some r) 34 [aL (a0.map eU8),aI a1] [.c (.d (.i .i64 r))]:=gF func34 ntmps34
def iH (a0:ah) (a1:Int):(Int×Int)->Option (ct (Int×Int) (Int))
 |(v1,v2)=>abU (bif ltB v2 (a0.aG.length:Int) then(some (ltB v2 a1)) else(some false)) λ(v6:Bool)=>bif v6 then(abU (ix a0.aG v2) λx7=>some (.next (WR (v1+(x7.bb.length:Int)),WR (v2+1)))) else(some (.done v1))
def mY (a0:ah) (a1:Int):Option Int:=
 abU (iter (iH a0 a1) FU (0,0)) λ(v5:Int)=>some v5
instance SF {a0:ah} {r:Int}:FC prog (mY a0 a1=some r) 22 [.agg (bZ a0),aI a1] [.c (.d (.i .i64 r))]:=gF func22 ntmps22 (hm 0 5 6) (he 0 5 6) (hb 12 16)
end Go.AM
