/- A part. -/
import Derived.Test.YtmginjngmidkbaaGreatI7
set_option linter.unusedVariables false
open Option renaming bind->abU
namespace Go.AM
open Go.Proofs
open Tryz
attribute [local irreducible] AWN NS AWO AWR AWC DR ea gL
set_option maxRecDepth 100000
set_option maxHeartbeats 40000000
def iU (a0:ab) (a1:Int):Option ab:=
 abU (iX a0) λr1=>abU (gY a0) λr2=>abU (bif r2 then(abU (b9 a1 0 4000) λr4=>some r4) else(some false)) λ(v3:Bool)=>abU (bif v3 then(abU (uP r1 a1) λr16=>some r16) else(some r1)) λ(v15:ab)=>some v15
theorem uJ {a0:ab} {a1:Int} {r:ab} (H:iU a0 a1=some r):Fn prog 11 [.agg (iy a0),aI a1] [.agg (qM [.d,.o,.o,.o,.o] (aU r))]:=by
 refine fI func11 ntmps11 ?_
 refine aa H λr1 q1 H=>nA (ca (hF:=sK q1)) ?_
 refine aa H λr2 q2 H=>nA (ca (hF:=nZ q2)) ?_
 refine aa H λv3 Hj H=>jR ⟨[(1,tI a1),(4,tP 1),(5,tP 7),(13,tB v3)],(oM [.w 2,.w 3,.w 4,.w 5,.w 6] 7 34 (aU r1)++[(1,.var 34 (kM [.z,.z,.z,.z,.z] (aU {dT with eo:=(⟨[]⟩:aS)})))]),8⟩ ?_ ?_
 .refine gC Hj ?_ ?_<;>intro H
  .refine aa H λr4 q4 H=>nG (ca (hF:=bX q4)) ?_
   exact ai H
  exact ai H
 refine aa H λv15 Hj H=>jA ⟨[(4,tP 1),(5,tP 7)],(oM [.t,.w 3,.w 4,.w 5,.w 6] 7 34 (aU v15)++[(1,.var 34 (kM [.z,.z,.z,.z,.z] (aU {dT with eo:=(⟨[]⟩:aS)})))]),8⟩ ?_ ?_
 .refine cC Hj ?_ ?_<;>intro H
  .refine aa H λr16 q16 H=>bQ (bb (o:=2)) ?_
   refine bQ (cL (o:=7)) ?_
   refine sA (cwu [(190,3),(191,4),(192,5),(193,6),(200,7)] [] 8 (ES q16)) ?_
   exact ai H
  cases H
  refine aq (bb (o:=2)) ?_
  refine aq (cL (o:=7)) ?_
  exact wo
 exact ao H
def Gv (a0:aJ):Option a9:=
 bif !eqB a0.bj 0 then(abU (cO a0 []) λr1=>some r1) else(abU (pR {a0 with bj:=1,eU:=3}) λr2=>abU (cO {a0 with bj:=1,eU:=3} [r2]) λr3=>some r3)
def yn (a0:aJ) (a1:Int):Option a9:=
 abU (bif eqB a1 a0.be then(some true) else(abU (b9 a1 0 5) λr2=>some (!r2))) λ(v1:Bool)=>bif v1 then(abU (cO a0 []) λr3=>some r3) else(abU (bif !eqB a0.bj 2 then(some true) else(some (leB 999999 a0.aT))) λ(v4:Bool)=>bif v4 then(abU (cO {a0 with be:=a1} []) λr5=>some r5) else(abU (ik {a0 with be:=a1,aT:=WR (a0.aT+1)}) λr6=>some r6))
def A1 (a0:aJ):Option aJ:=
 abU (bif eqB a0.bj 2 then(some 3) else(some a0.bj)) λ(v1:Int)=>abU (lk {a0 with bj:=v1}) λr2=>some r2
def uO (a0:ah) (a1:List Int):Option (ah×Bool):=
 abU (gD a0) λr1=>abU (bif leB 24 (a0.aM.length:Int) then(some true) else(some (ltB 60 (a1.length:Int)))) λ(v2:Bool)=>bif v2 then(some (r1,false)) else(abU (eZ a1) λr3=>bif c8 24 (r1.aM++[(⟨r3⟩:bM)]).length then(some ({r1 with aM:=(r1.aM++[(⟨r3⟩:bM)])},true)) else none)
def mZ (a0:ab) (a1:dh):Option (Bool×ab):=
 abU (b9 a1.cF 0 (WR ((a0.av.length:Int)-1))) λr1=>bif !r1 then(some (false,a0)) else(bif eqB a1.a8 5 then(abU (ix a0.av a1.cF) λx2=>bif !eqB x2.bj 0 then(some (false,a0)) else(abU (ix a0.av a1.cF) λx3=>abU (Gv x3) λr4=>abU (gE a0 a1.cF r4) λr5=>some (true,r5))) else(bif eqB a1.a8 6 then(abU (kP a0.eo a1.be) λr6=>abU (bif !r6 then(some true) else(abU (ix a0.av a1.cF) λx8=>some (eqB a1.be x8.be))) λ(v7:Bool)=>bif v7 then(some (false,a0)) else(abU (ix a0.av a1.cF) λx9=>abU (yn x9 a1.be) λr10=>abU (gE a0 a1.cF r10) λr11=>some (true,r11))) else(bif eqB a1.a8 7 then(abU (ix a0.av a1.cF) λx12=>bif !eqB x12.bj 2 then(some (false,a0)) else(abU (ix a0.av a1.cF) λx13=>abU (A1 x13) λr14=>abU (ix a0.av a1.cF) λx15=>some (true,{a0 with av:=(a0.av.set (a1.cF).toNat r14)}))) else(bif eqB a1.a8 8 then(abU (ix a0.aF a1.cF) λx16=>abU (uO x16 a1.bg) λr17=>bif !r17.2 then(some (false,a0)) else(abU (ix a0.aF a1.cF) λx18=>some (true,{a0 with aF:=(a0.aF.set (a1.cF).toNat r17.1)}))) else(some (true,a0))))))
def wy (a0:ab) (a1:dh):Option (Bool×ab):=
 abU (kP a0.eo a1.cF) λr1=>abU (bif !r1 then(some true) else(abU (vj a0 a1.cF) λr3=>some (booB r3 (eqB a1.a8 10)))) λ(v2:Bool)=>bif v2 then(some (false,a0)) else(bif leB 0 a1.cF then(some (true,{a0 with dv:=J5 .i64 a0.dv (lJ .i64 1 a1.cF)})) else none)
def tx (a0:bN) (a1:Int):Option Bool:=
 abU (jM a0) λr1=>abU (bif r1 then(abU (b9 a1 0 (WR (a0.fo-1))) λr3=>bif r3 then(bif leB 0 a1 then(some (eqB (AT .i64 (FQ .i64 a0.fj a1) 1) 1)) else none) else(some false)) else(some false)) λ(v2:Bool)=>some v2
def wv (a0:bN) (a1:Int) (a2:Bool):Option bN:=
 abU (jM a0) λr1=>abU (bif !r1 then(some true) else(abU (b9 a1 0 (WR (a0.fo-1))) λr3=>some (!r3))) λ(v2:Bool)=>bif v2 then(some a0) else(abU (bif a2 then(bif leB 0 a1 then(some (bOr .i64 a0.fj (lJ .i64 1 a1))) else none) else(bif leB 0 a1 then(some (vZ .i64 a0.fj (lJ .i64 1 a1))) else none)) λ(v4:Int)=>some (⟨a0.fo,v4⟩:bN))
def ol (a0:Int) (a1:Int):Option Int:=
 abU (eY 17 [a0,a1]) λr1=>some (Int.tmod (WR (r1*r1)) 2147483647)
def jv (a0:bN) (a1:Int):(Int×Int×Int)->Option (cq (Int×Int×Int) (Int))
 |(v2,v3,v4)=>bif ltB v4 a0.fo then(abU (tx a0 v4) λr10=>bif !r10 then(some (.next (v2,v3,WR (v4+1)))) else(abU (ol v4 a1) λr11=>abU (bif ltB v3 r11 then(some (v4,r11)) else(some (v2,v3))) λ((v12,v13):Int×Int)=>some (.next (v12,v13,WR (v4+1))))) else(some (.done v2))
def pP (a0:bN) (a1:Int):Option Int:=
 abU (jM a0) λr1=>bif !r1 then(some (-1)) else(abU (iter (jv a0 a1) FU (-1,-1,0)) λ(v9:Int)=>some v9)
def Dk (a0:ah):Option ah:=
 abU (gD a0) λr1=>some {r1 with aC:=cg,bE:=0,d6:=0,ge:=ec,dP:=0}
def kN (a0:ab) (r4:bN):(Int×List ah)->Option (cq (Int×List ah) (List ah))
 |(v5,v6)=>bif ltB v5 (a0.aF.length:Int) then(abU (pP a0.ef v5) λr14=>abU (pP r4 v5) λr15=>abU (bif !eqB r14 r15 then(abU (ix v6 v5) λx17=>abU (Dk x17) λr18=>abU (ix v6 v5) λx19=>some (v6.set (v5).toNat r18)) else(some v6)) λ(v16:List ah)=>some (.next (WR (v5+1),v16))) else(some (.done v6))
def sJ (a0:ab) (a1:dh):Option (Bool×ab):=
 abU (b9 a1.cF 0 (WR (a0.ef.fo-1))) λr1=>abU (bif !r1 then(some true) else(abU (tx a0.ef a1.cF) λr3=>some (booB r3 (eqB a1.a8 12)))) λ(v2:Bool)=>bif v2 then(some (false,a0)) else(abU (wv a0.ef a1.cF (eqB a1.a8 12)) λr4=>bif eqB r4.fj 0 then(some (false,a0)) else(abU (iter (kN a0 r4) FU (0,a0.aF)) λ(v13:List ah)=>some (true,{a0 with aF:=v13,ef:=r4})))
def Om (a0:ab) (a1:bF):Option (Bool×ab):=
 abU (bif leB 200 (a0.aK.length:Int) then(some true) else(abU (b9 a1.bk 0 (WR ((a0.av.length:Int)-1))) λr2=>bif !r2 then(some true) else(abU (kP a0.eo a1.be) λr3=>some (!r3)))) λ(v1:Bool)=>bif v1 then(some (false,a0)) else(abU (qf a0 a1) λr4=>some (true,r4))
def tG (a0:ab) (a1:dh):Option (Bool×ab):=
 bif eqB a1.a8 1 then(abU (Up a0) λr1=>some (r1.1,r1.2)) else(abU (bif eqB a1.a8 2 then(some (eqB a1.a8 2)) else(abU (bif eqB a1.a8 3 then(some (eqB a1.a8 3)) else(some (eqB a1.a8 4))) λ(v3:Bool)=>some v3)) λ(v2:Bool)=>bif v2 then(abU (ov a0 a1) λr4=>some (r4.1,r4.2)) else(abU (bif eqB a1.a8 5 then(some (eqB a1.a8 5)) else(abU (bif eqB a1.a8 6 then(some (eqB a1.a8 6)) else(abU (bif eqB a1.a8 7 then(some (eqB a1.a8 7)) else(some (eqB a1.a8 8))) λ(v7:Bool)=>some v7)) λ(v6:Bool)=>some v6)) λ(v5:Bool)=>bif v5 then(abU (mZ a0 a1) λr8=>some (r8.1,r8.2)) else(abU (bif eqB a1.a8 9 then(some (eqB a1.a8 9)) else(some (eqB a1.a8 10))) λ(v9:Bool)=>bif v9 then(abU (wy a0 a1) λr10=>some (r10.1,r10.2)) else(abU (bif eqB a1.a8 11 then(some (eqB a1.a8 11)) else(some (eqB a1.a8 12))) λ(v11:Bool)=>bif v11 then(abU (sJ a0 a1) λr12=>some (r12.1,r12.2)) else(bif eqB a1.a8 13 then(abU (Om a0 a1.bS) λr13=>some (r13.1,r13.2)) else(some (false,a0)))))))
def qG (a0:ab) (a1:dh):Option (Bool×ab):=
 abU (mY a0 {a1 with a8:=2}) λr1=>some (r1.1,r1.2)
theorem B5 {a0:ab} {a1:dh} {r:Bool×ab} (H:qG a0 a1=some r):FnV prog 38 (nI a0) [tP 200,.v (.agg (kM [.t,.t] (fB {a1 with a8:=2})))] (nI r.2) (.v (.c (.d false (.b r.1)))) []:=by
 refine fV func38 ntmps38 ?_
 refine aa H λr1 q1 H=>sA (cwu m0 [] 211 (yv q1)) ?_
 cases H
 exact cd
def p7 (a0:ab) (a1:dh):Option (ab×Bool):=
 abU (iX a0) λr1=>abU (gY a0) λr2=>abU (bif !r2 then(some (true,r1)) else(abU (tG r1 a1) λr15=>some (!r15.1,r15.2))) λ((v3,v14):Bool×ab)=>bif v3 then(abU (iX a0) λr16=>some (r16,false)) else(some (v14,true))
def mM (a0:ab) (a1:dh):Option (ab×Bool):=
 abU (iX a0) λr1=>abU (gY a0) λr2=>abU (bif !r2 then(some (true,r1)) else(abU (qG r1 {a1 with a8:=2}) λr15=>some (!r15.1,r15.2))) λ((v3,v14):Bool×ab)=>bif v3 then(abU (iX a0) λr16=>some (r16,false)) else(some (v14,true))
theorem BU {a0:ab} {a1:dh} {r:ab×Bool} (H:mM a0 a1=some r):FnV prog 12 [] [.v (.agg (kM [.t,.t,.t,.t,.t] (aU a0))),.v (.agg (kM [.t,.t] (fB {a1 with a8:=2})))] [] (.tup [.agg (kM [.t,.w 210,.w 211,.w 212,.w 213] (aU r.1)),.c (.d false (.b r.2))]) [(210,w93 r.1.av),(211,w75 r.1.aF),(212,w57 r.1.bG),(213,w49 r.1.aK)]:=by
 refine fV func12 ntmps12 ?_
 refine aa H λr1 q1 H=>nA (ca (hF:=sK q1)) ?_
 refine aa H λr2 q2 H=>nA (ca (hF:=nZ q2)) ?_
 obtain⟨⟨v3,v14⟩,Hj,H⟩:=ob H
 refine jR ⟨[(2,tP 210),(4,tP 212),(6,tP 218),(16,tB v3)],(oM [.t,.w 214,.w 215,.w 216,.w 217] 218 34 (aU v14)++[(210,.var 34 (kM [.t,.t,.t,.t,.t] (aU a0))),(212,.var 34 (kM [.z,.z,.z,.z,.z] (aU {dT with eo:=(⟨[]⟩:aS)})))]),219⟩ ?_ ?_
 .refine gC Hj ?_ ?_<;>intro H
  .cases H
   refine aq (bb (o:=213)) ?_
   refine aq (b7 (k:=8)) ?_
   refine aq (cL (o:=218)) ?_
   exact wo
  refine aa H λr15 q15 H=>bQ (bb (o:=213)) ?_
  refine bQ (b7 (k:=8)) ?_
  refine bQ (cL (o:=218)) ?_
  refine sG (cwu [(190,214),(191,215),(192,216),(193,217),(200,218)] [] 219 (B5 q15)) ?_
  exact ai H
 refine cC H ?_ ?_<;>intro H
 .refine aa H λr16 q16 H=>nA (ca (hF:=sK q16)) ?_
  cases H
  refine co ((bb (o:=219))) ?_
  refine co ((b7 (k:=18))) ?_
  refine co ((cL (o:=212))) ?_
  refine co (wS 220 210) ?_
  refine co (wS 221 211) ?_
  refine co (wS 222 212) ?_
  refine co (wS 223 213) ?_
  exact cd
 cases H
 refine co (wS 214 210) ?_
 refine co (wS 215 211) ?_
 refine co (wS 216 212) ?_
 refine co (wS 217 213) ?_
 exact cd
end Go.AM
