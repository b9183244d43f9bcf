/- A part. -/
import Derived.Test.YtcfhabdgiieejaaGreatI1
set_option linter.unusedVariables false
open Option renaming bind->abJ
namespace Go.AM
open Go.Proofs
open Tryz
attribute [local irreducible] AWN NS AWO AWR AWC DR DZ dQ f9 iter
set_option maxRecDepth 100000
set_option maxHeartbeats 40000000
variable {a1:Int} {r:Bool}
def uP (a0:aS) (a1:Int) (a2:Int):Option Bool:=
 abJ (kZ a0 a1) λr1=>abJ (bif r1 then(abJ (ix a0.bb a1) λx3=>abJ (gr x3.cQ a2) λr4=>some r4) else(some false)) λ(v2:Bool)=>some v2
instance Sg {a0:aS} {a2:Int} :FC prog (uP a0 a1 a2=some r) 135 [.agg (ge a0),aI a1,aI a2] [.c (.d (.b r))]:=gF func135 ntmps135 (hb 10 6)
def n8 (a0:lp):Option Bool:=
 abJ (gJ a0.ID) λr1=>abJ (bif r1 then(abJ (gI a0.eX) λr3=>bif r3 then(abJ (cf a0.di 0 999999) λr4=>some r4) else(some false)) else(some false)) λ(v2:Bool)=>some v2
instance EK {a0:lp} :FC prog (n8 a0=some r) 227 [.agg (Et a0)] [.c (.d (.b r))]:=gF func227 ntmps227 (hb 6 2)
def fB (a0:aO):Option Bool:=
 abJ (gJ a0.ID) λr1=>abJ (bif r1 then(abJ (gI a0.eX) λr3=>bif r3 then(abJ (cf a0.cW 0 999999) λr4=>some r4) else(some false)) else(some false)) λ(v2:Bool)=>some v2
instance EJ {a0:aO} :FC prog (fB a0=some r) 230 [.agg (dO a0)] [.c (.d (.b r))]:=gF func230 ntmps230 (hb 6 2)
def fJ (a0:aj) (a1:cP):Option Bool:=
 abJ (g9 a0) λr1=>abJ (bif r1 then(abJ (jh a1) λr3=>bif r3 then(abJ (om a0 a1.aJ) λr4=>some (eqB r4 a1.cV)) else(some false)) else(some false)) λ(v2:Bool)=>some v2
instance IV {a0:aj} {a1:cP} :FC prog (fJ a0 a1=some r) 139 [.agg (cM a0),.agg (mV a1)] [.c (.d (.b r))]:=gF func139 ntmps139 (hb 7 4)
def kS (a0:ab) (a1:Int):Option Bool:=
 abJ (sU a0 a1) λr1=>abJ (bif r1 then(abJ (ix a0.aw a1) λx3=>abJ (ix a0.aA a1) λx4=>abJ (tO x3.bW.be x4.aH) λr5=>some r5) else(some false)) λ(v2:Bool)=>some v2
instance MB {a0:ab} :FC prog (kS a0 a1=some r) 39 [.agg (fG a0),aI a1] [.c (.d (.b r))]:=gF func39 ntmps39 (hb 8 4)
def pU (a0:ab) (a1:Int):Option Int:=
 abJ (qv a0 a1) λr1=>bif !r1 then(some (-1)) else(abJ (ix a0.bG a1) λx2=>abJ (ix a0.aA a1) λx3=>some (WR (x2.ey+x3.b9.em)))
instance Sj {a0:ab} {r:Int}:FC prog (pU a0 a1=some r) 57 [.agg (fG a0),aI a1] [.c (.d (.i .i64 r))]:=gF func57 ntmps57
def fR (a0:ab) (a1:Int):Option Bool:=
 abJ (sU a0 a1) λr1=>abJ (bif r1 then(abJ (ix a0.aA a1) λx3=>abJ (gH x3) λr4=>abJ (ix a0.aw a1) λx5=>some (leB r4 (x5.bW.be.length:Int))) else(some false)) λ(v2:Bool)=>some v2
instance Df {a0:ab} :FC prog (fR a0 a1=some r) 41 [.agg (fG a0),aI a1] [.c (.d (.b r))]:=gF func41 ntmps41 (hb 8 4)
def mI (a0:aP):Option aP:=
 abJ (kG a0.aK) λr1=>abJ (mH a0.be) λr2=>some (⟨a0.bE,r1,r2⟩:aP)
instance Dm {a0:aP} {r:aP}:FC prog (mI a0=some r) 170 [.agg (g8 a0)] [.agg (qM [.o,.o] (b8 r))]:=gF func170 ntmps170 (hz 1)
def lC (a0:aY):Option aY:=
 abJ (kG a0.aC) λr1=>some (⟨a0.bE,r1⟩:aY)
instance mJ {a0:aY} {r:aY}:FC prog (lC a0=some r) 173 [.agg (gq a0)] [.agg (qM [.o] (dH r))]:=gF func173 ntmps173 (hz 1)
def wg (a0:av):Option av:=
 abJ (rI a0.bz) λr1=>some {a0 with bz:=r1}
instance XA {a0:av} {r:av}:FC prog (wg a0=some r) 175 [.agg (cN a0)] [.agg (qM [.o] (jf r))]:=gF func175 ntmps175
def gk (a0:List aj):(Int×List aj)->Option (cr (Int×List aj) (List aj))
 |(v1,v2)=>bif ltB v1 (a0.length:Int) then(abJ (ix a0 v1) λx7=>abJ (eZ x7) λr8=>abJ (ix v2 v1) λx9=>some (.next (WR (v1+1),(v2.set (v1).toNat r8)))) else(some (.done v2))
def fj (a0:List aj):Option (List aj):=
 bif pA 48 (a0.length:Int) (a0.length:Int) then(abJ (iter (gk a0) FU (0,(List.replicate ((a0.length:Int)).toNat it))) λ(v6:List aj)=>some v6) else none
instance xQ {a0:List aj} {r:List aj}:FCV prog (fj a0=some r) 94 [] [.v (.c (.d false (.l (a0.map cM)))),.v (.c (.fn 95))] [] (.v (.c (.w 210 r.length))) [(210,YH r)]:=⟨λH=>by
 refine fV func94 ntmps94 ?_
 obtain⟨h,H⟩:=rq H
 refine nA (mkT (enc:=cM) (za:=it) h (by rfl)) ?_
 refine aa H λv6 Hj H=>jB ⟨[(5,.v (.c (.w 210 v6.length)))],[(210,YH v6)],211⟩ ?_ ?_
 .refine iT Hj (λq=>⟨[(1,.v (.c (.fn 95))),(5,.v (.c (.w 210 q.2.length))),(11,.v (.c (.d false (.l (a0.map cM))))),(12,tI (a0.length:Int)),(13,tI q.1)],[(210,YH q.2)],211⟩) ?_
  rintro⟨v1,v2⟩ o H
  refine ad ?_
  refine cC H ?_ ?_<;>intro H
  .refine aa H λx7 hx7 H=>nA (xdT (enc:=cM) hx7) ?_
   refine aa H λr8 q8 H=>nA (Pr rfl (ca (hF:=lA.h q8))) ?_
   refine aa H λx9 hx9 H=>nA (xwT hx9) ?_
   refine bL (bv (o:=212)) ?_
   refine bL (bH (k:=22)) ?_
   refine sA (soT (enc:=cM) (a':=r8) hx9) ?_
   exact aN H
  exact aE H
 cases H
 exact bj⟩
def md (a0:Int) (a1:Int):Option Int:=
 abJ (QR a1 2147483647) λr1=>some (Int.tmod (WR ((WR ((WR (a0*1000003))+r1))+13)) 2147483647)
instance Y1 {a0:Int} {r:Int}:FC prog (md a0 a1=some r) 287 [aI a0,aI a1] [.c (.d (.i .i64 r))]:=gF func287 ntmps287
def IR (a0:aj) (a1:Int) (a2:Int):Option (aj×Bool):=
 abJ (eZ a0) λr1=>abJ (g9 a0) λr2=>abJ (bif !r2 then(some true) else(abJ (om a0 a1) λr4=>abJ (cf a2 0 r4) λr5=>some (!r5))) λ(v3:Bool)=>bif v3 then(some (r1,false)) else(abJ (fU r1 a1) λr6=>bif ltB r6 0 then(some (r1,true)) else(abJ (ix r1.an r6) λx7=>abJ (ix r1.an r6) λx8=>abJ (ix (r1.an.set (r6).toNat (⟨x8.aJ,WR (x7.dW-a2)⟩:aD)) r6) λx9=>abJ (bif eqB x9.dW 0 then(abJ (mc {r1 with ey:=WR (r1.ey+a2),an:=(r1.an.set (r6).toNat (⟨x8.aJ,WR (x7.dW-a2)⟩:aD))} r6) λr15=>some r15) else(some {r1 with ey:=WR (r1.ey+a2),an:=(r1.an.set (r6).toNat (⟨x8.aJ,WR (x7.dW-a2)⟩:aD))})) λ(v14:aj)=>some (v14,true)))
instance iDebit_c {a0:aj} {a2:Int} {r:aj×Bool}:FC prog (IR a0 a1 a2=some r) 300 [.agg (cM a0),aI a1,aI a2] [.agg (qM [.o] (ct r.1)),.c (.d (.b r.2))]:=⟨λH=>by
 refine fI func300 ntmps300 ?_
 refine aa H λr1 q1 H=>nA (ca (hF:=lA.h q1)) ?_
 refine aa H λr2 q2 H=>nA (ca (hF:=tQ.h q2)) ?_
 refine aa H λv3 Hj H=>jR ⟨[(1,tI a1),(2,tI a2),(6,tP 1),(8,tP 3),(22,tB v3)],(oM [.w 2] 3 107 (ct r1)++[(1,.var 107 (kM [.z] (ct it)))]),4⟩ ?_ ?_
 .refine gC Hj ?_ ?_<;>intro H
  .exact ai H
  refine aa H λr4 q4 H=>nG (ca (hF:=EO.h q4)) ?_
  refine aa H λr5 q5 H=>nG (ca (hF:=jg.h q5)) ?_
  exact ai H
 refine cC H ?_ ?_<;>intro H
 .exact ao H
 refine aa H λr6 q6 H=>nA (ca (hF:=rh.h q6)) ?_
 refine cC H ?_ ?_<;>intro H
 .exact ao H
 refine aa H λx7 hx7 H=>nA (xwT hx7) ?_
 refine nA (oe (he:=dF _ hx7)) ?_
 refine aa H λx8 hx8 H=>nA (xwT hx8) ?_
 refine sA (soT (enc:=bZ) (a':=(⟨x8.aJ,WR (x7.dW-a2)⟩:aD)) hx8) ?_
 refine aa H λx9 hx9 H=>nA (xwT hx9) ?_
 refine nA (oe (he:=dF _ hx9)) ?_
 refine aa H λv14 Hj H=>jA ⟨[(6,tP 1),(8,tP 3)],(oM [.w 4] 3 107 (ct v14)++[(1,.var 107 (kM [.z] (ct it)))]),5⟩ ?_ ?_
 .refine cC Hj ?_ ?_<;>intro H
  .refine aa H λr15 q15 H=>nA (ca (hF:=Aj.h q15)) ?_
   cases H
   refine am (wB 2 ((r1.an.set (r6).toNat (⟨x8.aJ,WR (x7.dW-a2)⟩:aD)).length)) ?_
   exact wo
  cases H
  refine am (wB 2 ((r1.an.set (r6).toNat (⟨x8.aJ,WR (x7.dW-a2)⟩:aD)).length)) ?_
  refine am (uI (nx':=5) rfl) ?_
  refine am (wS 4 2) ?_
  exact wo
 cases H
 exact dM⟩
def DC (a0:aS) (a1:Int):Option Int:=
 abJ (kZ a0 a1) λr1=>bif !r1 then(some (-1)) else(abJ (ix a0.bb a1) λx2=>some x2.fZ)
instance QM {a0:aS} {r:Int}:FC prog (DC a0 a1=some r) 301 [.agg (ge a0),aI a1] [.c (.d (.i .i64 r))]:=gF func301 ntmps301
def tY (a0:cG) (a1:aS):Option (cG×List Int):=
 bif ltB 0 a0.fo then(some ({a0 with fo:=WR (a0.fo-1)},([]:List Int))) else(abJ (bif ltB a0.fm 4 then(some (WR (a0.fm+1))) else(some 1)) λ(v1:Int)=>abJ (rC a1 a0.fZ v1) λr2=>some ((⟨a0.fZ,v1,3⟩:cG),r2))
instance GE {a0:cG} {a1:aS} {r:cG×List Int}:FC prog (tY a0 a1=some r) 302 [.agg (pR a0),.agg (ge a1)] [.agg (qM [] (mB r.1)),.c (.own 3 1 (r.2.map eI) r.2.length)]:=gF func302 ntmps302 (hC 17 (λ(v:Int) sl ob nx=>⟨sl,[(0,.var 87 (kM [] (mB {a0 with fm:=v})))]++ob,nx⟩)) (hz 8)
def n9 (a0:ah) (a1:Int):Option Int:=
 abJ (iS a0) λr1=>abJ (kq a0.b9) λr2=>abJ (Ue 0 (WR ((WR (r1+a1))-r2))) λr3=>some r3
instance EM {a0:ah} {r:Int}:FC prog (n9 a0 a1=some r) 305 [.agg (bS a0),aI a1] [.c (.d (.i .i64 r))]:=gF func305 ntmps305
def tV (a1:Int) (r1:aj):Int->Option (cr (Int) (Int))
 |v9=>abJ (bif ltB v9 (r1.an.length:Int) then(abJ (ix r1.an v9) λx14=>some (ltB x14.aJ a1)) else(some false)) λ(v13:Bool)=>bif v13 then(some (.next (WR (v9+1)))) else(some (.done v9))
def A8 (a0:aj) (a1:Int) (a2:Int):Option (aj×Int):=
 abJ (eZ a0) λr1=>abJ (g9 a0) λr2=>abJ (bif !r2 then(some true) else(bif ltB a1 0 then(some true) else(abJ (cf a2 1 100000) λr4=>bif !r4 then(some true) else(some (eqB a0.bY 0))))) λ(v3:Bool)=>bif v3 then(some (r1,0)) else(abJ (Nf a2 a0.bY) λr5=>abJ (fU a0 a1) λr6=>bif leB 0 r6 then(abJ (ix r1.an r6) λx7=>abJ (ix r1.an r6) λx8=>some ({r1 with bY:=WR (r1.bY-r5),an:=(r1.an.set (r6).toNat (⟨x8.aJ,WR (x7.dW+r5)⟩:aD))},r5)) else(bif leB 8 (a0.an.length:Int) then(some (r1,0)) else(abJ (iter (tV a1 r1) FU 0) λ(v12:Int)=>bif da 16 (r1.an++[db]).length then(bif eF (r1.an++[db]) (WR (v12+1)) (r1.an++[db]).length then(bif eF (r1.an++[db]) v12 (r1.an++[db]).length then(abJ (ix (cpD (r1.an++[db]) (WR (v12+1)).toNat ((r1.an++[db]).drop (v12).toNat)) v12) λx15=>some ({r1 with bY:=WR (r1.bY-r5),an:=((cpD (r1.an++[db]) (WR (v12+1)).toNat ((r1.an++[db]).drop (v12).toNat)).set (v12).toNat (⟨a1,r5⟩:aD))},r5)) else none) else none) else none)))
instance ZX {a0:aj} {a2:Int} {r:aj×Int}:FC prog (A8 a0 a1 a2=some r) 386 [.agg (cM a0),aI a1,aI a2] [.agg (qM [.o] (ct r.1)),.c (.d (.i .i64 r.2))]:=⟨λH=>by
 refine fI func386 ntmps386 ?_
 refine aa H λr1 q1 H=>nA (ca (hF:=lA.h q1)) ?_
 refine aa H λr2 q2 H=>nA (ca (hF:=tQ.h q2)) ?_
 refine aa H λv3 Hj H=>jR ⟨[(1,tI a1),(2,tI a2),(3,tP 0),(6,tP 1),(8,tP 3),(30,tB v3)],(oM [.w 2] 3 107 (ct r1)++[(0,.var 107 (kM [.f] (ct a0))),(1,.var 107 (kM [.z] (ct it)))]),4⟩ ?_ ?_
 .refine gC Hj ?_ ?_<;>intro H
  .exact ai H
  refine gC H ?_ ?_<;>intro H
  .exact ai H
  refine aa H λr4 q4 H=>nG (ca (hF:=jg.h q4)) ?_
  exact az H
 refine cC H ?_ ?_<;>intro H
 .exact ao H
 refine aa H λr5 q5 H=>nA (ca (hF:=Ng.h q5)) ?_
 refine aa H λr6 q6 H=>nA (ca (hF:=rh.h q6)) ?_
 refine cC H ?_ ?_<;>intro H
 .refine aa H λx7 hx7 H=>nA (xwT hx7) ?_
  refine nA (oe (he:=dF _ hx7)) ?_
  refine aa H λx8 hx8 H=>nA (xwT hx8) ?_
  refine sA (soT (enc:=bZ) (a':=(⟨x8.aJ,WR (x7.dW+r5)⟩:aD)) hx8) ?_
  cases H
  refine vb (wB 2 ((r1.an.set (r6).toNat (⟨x8.aJ,WR (x7.dW+r5)⟩:aD)).length)) ?_
  exact dM
 refine cC H ?_ ?_<;>intro H
 .exact ao H
 refine aa H λv12 Hj H=>jB ⟨[(1,tI a1),(6,tP 1),(8,tP 3),(9,tI r5),(11,tI v12)],(oM [.w 2] 3 107 (ct r1)++[(1,.var 107 (kM [.z] (ct it)))]),4⟩ ?_ ?_
 .refine iT Hj (λq=>⟨[(1,tI a1),(6,tP 1),(8,tP 3),(9,tI r5),(11,tI q)],(oM [.w 2] 3 107 (ct r1)++[(1,.var 107 (kM [.z] (ct it)))]),4⟩) ?_
  rintro v9 o H
  refine ad ?_
  refine aa H λv13 Hj H=>jR ⟨[(1,tI a1),(6,tP 1),(8,tP 3),(9,tI r5),(11,tI v9),(77,tB v13)],(oM [.w 2] 3 107 (ct r1)++[(1,.var 107 (kM [.z] (ct it)))]),4⟩ ?_ ?_
  .refine gC Hj ?_ ?_<;>intro H
   .refine aa H λx14 hx14 H=>nG (xwT hx14) ?_
    refine nG (oe (he:=dF _ hx14)) ?_
    exact ai H
   exact ai H
  refine cC H ?_ ?_<;>intro H
  .exact aN H
  exact aE H
 obtain⟨h,H⟩:=rq H
 refine sA (apT (enc:=bZ) (ys:=r1.an) (zs:=[db]) h) ?_
 refine zI (List.range 10) ?_
 obtain⟨hs3,H⟩:=rq H
 refine zA (MW (enc:=bZ) hs3 (by first|rfl|simp) rfl rfl rfl rfl) ?_
 obtain⟨hs4,H⟩:=rq H
 refine zA (MW (enc:=bZ) hs4 (by first|rfl|simp) rfl rfl rfl rfl) ?_
 refine zB bC (fg rfl (cpsT (enc:=bZ) (ys:=(r1.an++[db])) (zs:=(r1.an++[db]).drop (v12).toNat) (hs:=Mh (enc:=bZ) hs4 (by first|rfl|simp) rfl) hs3)) bC ?_
 refine aa H λx15 hx15 H=>nA (xwT hx15) ?_
 refine sA (soT (enc:=bZ) (a':=(⟨a1,r5⟩:aD)) hx15) ?_
 cases H
 refine vb (wB 2 (((cpD (r1.an++[db]) (WR (v12+1)).toNat ((r1.an++[db]).drop (v12).toNat)).set (v12).toNat (⟨a1,r5⟩:aD)).length)) ?_
 exact dM⟩
def vi (a0:ab) (a1:Int):Option Bool:=
 abJ (kZ a0.ev a1) λr1=>abJ (bif r1 then(bif ltB a1 6 then(bif leB 0 a1 then(some (eqB (z6 .i64 (Eb .i64 a0.dw a1) 1) 0)) else none) else(some false)) else(some false)) λ(v2:Bool)=>some v2
instance CQ {a0:ab} :FC prog (vi a0 a1=some r) 52 [.agg (fG a0),aI a1] [.c (.d (.b r))]:=gF func52 ntmps52 (hb 9 4)
def qp (a0:bK) (a1:Int):Option Bool:=
 abJ (jV a0) λr1=>abJ (bif r1 then(abJ (cf a1 0 (WR (a0.fC-1))) λr3=>bif r3 then(bif leB 0 a1 then(some (eqB (z6 .i64 (Eb .i64 a0.fP a1) 1) 1)) else none) else(some false)) else(some false)) λ(v2:Bool)=>some v2
instance Gx {a0:bK} :FC prog (qp a0 a1=some r) 181 [.agg (iO a0),aI a1] [.c (.d (.b r))]:=gF func181 ntmps181 (hb 7 4)
def rF (a0:bK) (a1:Int) (a2:Bool):Option bK:=
 abJ (jV a0) λr1=>abJ (bif !r1 then(some true) else(abJ (cf a1 0 (WR (a0.fC-1))) λr3=>some (!r3))) λ(v2:Bool)=>bif v2 then(some a0) else(abJ (bif a2 then(bif leB 0 a1 then(some (bOr .i64 a0.fP (lX .i64 1 a1))) else none) else(bif leB 0 a1 then(some (vU .i64 a0.fP (lX .i64 1 a1))) else none)) λ(v4:Int)=>some (⟨a0.fC,v4⟩:bK))
instance ET {a0:bK} {a2:Bool} {r:bK}:FC prog (rF a0 a1 a2=some r) 182 [.agg (iO a0),aI a1,aB a2] [.agg (qM [] (eY r))]:=gF func182 ntmps182 (hb 10 17) (hC 19 (λ(v:Int) sl ob nx=>⟨sl,[(0,.var 32 (kM [] (eY (⟨a0.fC,v⟩:bK))))]++ob,nx⟩)) (hz 4) (hz 5)
def tN (a0:av) (a1:av):Option Bool:=
 abJ (bif eqB a0.ag a1.ag then(bif eqB a0.aV a1.aV then(abJ (uR a0.bz a1.bz) λr2=>some r2) else(some false)) else(some false)) λ(v1:Bool)=>some v1
instance Wz {a0:av} {a1:av} :FC prog (tN a0 a1=some r) 113 [.agg (cN a0),.agg (cN a1)] [.c (.d (.b r))]:=gF func113 ntmps113 (hb 10 4)
end Go.AM
