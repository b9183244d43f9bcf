/- A part. -/
import Derived.Test.YtcnfbcpgepbnkaaGreatI2
import Derived.Test.YtcnfbcpgepbnkaaGreatI3
set_option linter.unusedVariables false
open Option renaming some->ς,none->ξ
open Bool renaming true->ζ,false->η
open True renaming intro->θ
open Option renaming bind->aeP
namespace Go.AM
open Go.Proofs
open Tryz
attribute [local irreducible] AWN NS AWO AWR AWC DR DZ cO eB iter
set_option maxRecDepth 100000
set_option maxHeartbeats 40000000
variable{a0 a1:Int}
def tx(a0:Int)(a1:Int)(a2:Int)(a3:am):Option (ab×Bool):=
 aeP (cond (!eqB a3.av a1) (ς ζ) (cond (!eqB a3.a8 a2) (ς ζ) (aeP (sx a0 a3) λr2=>ς (!r2)))) λ(v1:Bool)=>cond v1 (ς (bE,η)) (aeP (sY a0 a2) λr3=>aeP (xk r3 a3.bH) λr4=>ς ((⟨a3.bH.f8,r4⟩:ab),ζ))
theorem JF{a2:Int}{a3:am}{r:ab×Bool}(H:tx a0 a1 a2 a3=ς r)(hflag:r.2=ζ):Fn prog 253 [aI a0,aI a1,aI a2,.agg (cQ a3)] [.agg (qM [.o] (dv r.1)),.c (.d (.b r.2))]:=by
 refine fI func253 ntmps253 ?_
 refine aa H λv1 Hj H=>jR ⟨[(0,tI a0),(2,tI a2),(7,tP 0),(8,tP 1),(26,tB v1)],[(0,.var 150 (kM [.f] (gX a3))),(1,.var 249 (kM [.z] (dv bE)))],2⟩ ?_ ?_
 .refine gC Hj ?_ ?_<;>intro H
  .exact ai H
  refine gC H ?_ ?_<;>intro H
  .exact ai H
  refine aa H λr2 q2 H=>nG (ca (hF:=zf.h q2)) ?_
  exact ai H
 refine cC H ?_ ?_<;>intro H
 .cases H
  cases hflag
 refine dI ?_
 refine aa H λr3 q3 H=>dA (ca (hF:=Fg.h q3)) ?_
 refine aa H λr4 q4 H=>dA (ca (hF:=zj.h q4)) ?_
 refine wI ?_
 exact ao H
theorem JE{a2:Int}{a3:am}{r:ab×Bool}(H:tx a0 a1 a2 a3=ς r)(hflag:r.2=η):Fn prog 253 [aI a0,aI a1,aI a2,.agg (cQ a3)] [.agg (qM [.z] (dv r.1)),.c (.d (.b r.2))]:=by
 refine fI func253 ntmps253 ?_
 refine aa H λv1 Hj H=>jR ⟨[(0,tI a0),(2,tI a2),(7,tP 0),(8,tP 1),(26,tB v1)],[(0,.var 150 (kM [.f] (gX a3))),(1,.var 249 (kM [.z] (dv bE)))],2⟩ ?_ ?_
 .refine gC Hj ?_ ?_<;>intro H
  .exact ai H
  refine gC H ?_ ?_<;>intro H
  .exact ai H
  refine aa H λr2 q2 H=>nG (ca (hF:=zf.h q2)) ?_
  exact ai H
 refine cC H ?_ ?_<;>intro H
 .exact ao H
 refine dI ?_
 refine aa H λr3 q3 H=>dA (ca (hF:=Fg.h q3)) ?_
 refine aa H λr4 q4 H=>dA (ca (hF:=zj.h q4)) ?_
 refine wI ?_
 cases H
 cases hflag
def qh(a0:aF)(a1:am):Option aZ:=
 cond (!eqB a0.bF 2) (aeP (cY a0 []) λr1=>ς r1) (aeP (tx a0.bp a0.av a0.a8 a1) λr2=>cond r2.2 (aeP (oI a0.ct r2.1) λr3=>aeP (nP a0.bp (⟨8,a0.bC,a0.av,a0.a8,r3.bw,db,0⟩:aD)) λr4=>aeP (cY {a0 with ct:=r3} [r4]) λr5=>ς r5) (aeP (cY a0 []) λr6=>ς r6))
def ky(a0:Int)(a1:Int)(a2:Int):Option Int:=
 aeP (UI a2 1000000) λr1=>aeP (mL a0 a1) λr2=>aeP (UI (WR (r1-r2)) 1000000) λr3=>ς r3
instance SF{a2:Int}{r:Int}:FC prog (ky a0 a1 a2=ς r) 355 [aI a0,aI a1,aI a2] [.c (.d (.i .i64 r))]:=gG func355 ntmps355
def qj(a0:Int)(a1:Int)(a2:cb):Option Int:=
 aeP (ky a0 a2.ei a2.gL) λr1=>aeP (eH a0 [2,a2.ei,r1]) λr2=>cond (!eqB a2.nJ r2) (ς 1) (cond (leB r1 a1) (ς 2) (cond (ltB (WR (a1+1000)) r1) (ς 3) (ς 0)))
instance Wd{a2:cb}{r:Int}:FC prog (qj a0 a1 a2=ς r) 354 [aI a0,aI a1,.agg (gR a2)] [.c (.d (.i .i64 r))]:=gG func354 ntmps354
def mB(a0:ju)(a1:cb):Option (ju×fX):=
 aeP (oE a0) λr1=>cond (!r1) (ς (a0,{iu with Code:=1})) (aeP (qj a0.f9 a0.d7 a1) λr2=>aeP (cond (eqB r2 0) (aeP (ky a0.f9 a1.ei a1.gL) λr8=>aeP (eH a0.f9 [3,a1.ei]) λr9=>aeP (lE a0.f9 a1.ei r8) λr10=>ς (r8,(⟨r2,r9,r10.f9,0⟩:fX))) (aeP (cond (eqB r2 2) (ς (eqB r2 2)) (ς (eqB r2 3))) λ(v11:Bool)=>aeP (cond v11 (aeP (su a0.f9 a1.ei a0.d7) λr13=>ς r13) (ς 0)) λ(v12:Int)=>ς (a0.d7,{iu with Code:=r2,WJ:=v12}))) λ((v6,v7):Int×fX)=>ς ({a0 with d7:=v6},v7))
instance yG{a0:ju}{a1:cb}{r:ju×fX}:FC prog (mB a0 a1=ς r) 319 [.agg (BJ a0),.agg (gR a1)] [.agg (qM [] (LI r.1)),.agg (qM [] (tq r.2))]:=gG func319 ntmps319 (hC 23 (λ(v:Int×fX) sl ob nx=>⟨sl,[(0,.var 123 (kM [] (LI {a0 with d7:=v.1}))),(4,.var 329 (kM [] (tq v.2)))]++fO [1] ob,nx⟩)) (hc 49 49) (hC 49 (λ(v:Int) sl ob nx=>⟨sl,uC 4 3 [.d η (.i .i64 v)] ob,nx⟩)) (hz 14)
def ma(a0:aF)(a1:aD):Option aZ:=
 aeP (mB a0.ea a1.cW) λr1=>cond (!eqB r1.2.Code 0) (aeP (cY a0 []) λr2=>ς r2) (aeP (cY {a0 with ea:=r1.1,av:=a1.av,bp:=r1.2.wP} [(⟨3,a0.bC,a1.av,0,r1.2.D0,db,0⟩:aD)]) λr3=>ς r3)
def qT(a0:aF):Option aD:=
 aeP (nP a0.bp (⟨5,a0.bC,a0.av,a0.a8,0,db,0⟩:aD)) λr1=>ς r1
instance Br{a0:aF}{r:aD}:FC prog (qT a0=ς r) 186 [.agg (bG a0)] [.agg (qM [] (fM r))]:=gG func186 ntmps186
def i8(a0:aF):Option aZ:=
 aeP (qT {a0 with bR:=η,eG:=3}) λr1=>aeP (cY {a0 with bR:=η,eG:=3} [r1]) λr2=>ς r2
def oJ(a0:aF)(a1:aD):Option aZ:=
 aeP (lD a1) λr1=>aeP (cond (!r1) (ς ζ) (cond (!eqB a1.bC a0.bC) (ς ζ) (ς (eqB a0.bF 0)))) λ(v2:Bool)=>cond v2 (aeP (cY a0 []) λr3=>ς r3) (cond (eqB a1.eb 2) (cond (eqB a0.bF 1) (aeP (ma a0 a1) λr4=>ς r4) (aeP (cY a0 []) λr5=>ς r5)) (cond (eqB a1.eb 4) (aeP (cond (eqB a0.bF 1) (aeP (gh a0.bp) λr7=>cond r7 (cond (eqB a1.av a0.av) (aeP (i7 a0.bp a1) λr8=>ς r8) (ς η)) (ς η)) (ς η)) λ(v6:Bool)=>aeP (cond v6 (ς {a0 with bF:=2,a8:=a1.a8,bR:=ζ}) (ς a0)) λ(v12:aF)=>aeP (cY v12 []) λr13=>ς r13) (cond (eqB a1.eb 6) (aeP (cond (eqB a0.bF 2) (cond (eqB a1.av a0.av) (cond (eqB a1.a8 a0.a8) (aeP (i7 a0.bp a1) λr15=>ς r15) (ς η)) (ς η)) (ς η)) λ(v14:Bool)=>aeP (cond v14 (ς ζ) (ς a0.bR)) λ(v16:Bool)=>aeP (cY {a0 with bR:=v16} []) λr17=>ς r17) (cond (eqB a1.eb 7) (aeP (cond (eqB a0.bF 3) (ς (ltB a0.a8 999999)) (ς η)) λ(v18:Bool)=>cond v18 (aeP (i8 {a0 with bF:=2,a8:=WR (a0.a8+1)}) λr19=>ς r19) (cond (eqB a0.bF 2) (aeP (i8 a0) λr20=>ς r20) (aeP (cY a0 []) λr21=>ς r21))) (aeP (cY a0 []) λr22=>ς r22)))))
def C0(a0:ae)(a1:Int):Option ae:=
 aeP (nW a0 a1) λr1=>aeP (AD r1.2 r1.1.bC) λr2=>aeP (cond (!r2) (ς {r1.2 with my:=WR (r1.2.my+1)}) (aeP (cond r1.1.pK (cond r1.1.jQ (ς ζ) (ς (!eqB r1.1.cg.bC r1.1.bC))) (ς η)) λ(v14:Bool)=>aeP (cond v14 (ς r1.2) (aeP (cond r1.1.pK (aeP (ix r1.2.aT r1.1.bS) λx37=>aeP (oK x37 r1.1.cg) λr38=>aeP (ix r1.2.aT r1.1.bS) λx39=>aeP (je {r1.2 with aT:=(r1.2.aT.set (r1.1.bS).toNat r38.aX)} r1.1.bS r38.dV) λr40=>ς r40) (aeP (ix r1.2.aH r1.1.bS) λx41=>aeP (cond (!eqB x41.bC r1.1.bC) (ς {r1.2 with my:=WR (r1.2.my+1)}) (aeP (cond r1.1.jQ (aeP (ix r1.2.aH r1.1.bS) λx64=>aeP (qh x64 r1.1.cF) λr65=>aeP (iL r1.2 r1.1.bS r65) λr66=>ς r66) (aeP (ix r1.2.aH r1.1.bS) λx67=>aeP (oJ x67 r1.1.cg) λr68=>aeP (iL r1.2 r1.1.bS r68) λr69=>ς r69)) λ(v63:ae)=>ς v63)) λ(v52:ae)=>ς v52)) λ(v36:ae)=>ς v36)) λ(v25:ae)=>ς v25)) λ(v13:ae)=>ς v13
def jC(a1:Int):(Int×ae)->Option (bJ (Int×ae) (ae))
 |(v1,v12)=>aeP (cond (ltB v1 a1) (ς (ltB 0 (v12.aJ.length:Int))) (ς η)) λ(v26:Bool)=>cond v26 (aeP (C0 v12 0) λr27=>ς (.next (WR (v1+1),r27))) (ς (.done v12))
def qk(a0:ae)(a1:Int):Option ae:=
 aeP (iter (jC a1) FU (0,a0)) λ(v25:ae)=>ς v25
def vG(a0:aF):Option aD:=
 ς {gq with eb:=1,bC:=a0.bC}
instance FJ{a0:aF}{r:aD}:FC prog (vG a0=ς r) 185 [.agg (bG a0)] [.agg (qM [] (fM r))]:=gG func185 ntmps185
def uS(a0:aF):Option aZ:=
 cond (ltB 0 a0.eG) (aeP (cY {a0 with eG:=WR (a0.eG-1)} []) λr1=>ς r1) (cond (eqB a0.bF 1) (aeP (vG {a0 with eG:=3}) λr2=>aeP (cY {a0 with eG:=3} [r2]) λr3=>ς r3) (aeP (cond (eqB a0.bF 2) (ς (!a0.bR)) (ς η)) λ(v4:Bool)=>cond v4 (aeP (qT {a0 with eG:=3}) λr5=>aeP (cY {a0 with eG:=3} [r5]) λr6=>ς r6) (aeP (cY a0 []) λr7=>ς r7)))
def mb(a0:aj)(a1:Int):Option aj:=
 cond (d6 a0.ak 0 a1) (cond (c8 16 (([]:List ah)++(a0.ak.take (a1).toNat)).length) (cond (d6 a0.ak (WR (a1+1)) a0.ak.length) (cond (c8 16 ((([]:List ah)++(a0.ak.take (a1).toNat))++(a0.ak.drop (WR (a1+1)).toNat)).length) (ς {a0 with ak:=((([]:List ah)++(a0.ak.take (a1).toNat))++(a0.ak.drop (WR (a1+1)).toNat))}) ξ) ξ) ξ) ξ
instance BR{a0:aj}{r:aj}:FC prog (mb a0 a1=ς r) 328 [.agg (bj a0),aI a1] [.agg (qM [.o] (cp r))]:=gG func328 ntmps328
def LS(a0:aj)(a1:Int)(a2:Int):Option (aj×Bool):=
 aeP (er a0) λr1=>aeP (gF a0) λr2=>aeP (cond (!r2) (ς ζ) (aeP (oN a0 a1) λr4=>aeP (bW a2 0 r4) λr5=>ς (!r5))) λ(v3:Bool)=>cond v3 (ς (r1,η)) (aeP (fC r1 a1) λr6=>cond (ltB r6 0) (ς (r1,ζ)) (aeP (ix r1.ak r6) λx7=>aeP (ix r1.ak r6) λx8=>aeP (ix (r1.ak.set (r6).toNat (⟨x8.ax,WR (x7.dq-a2)⟩:ah)) r6) λx9=>aeP (cond (eqB x9.dq 0) (aeP (mb {r1 with eW:=WR (r1.eW+a2),ak:=(r1.ak.set (r6).toNat (⟨x8.ax,WR (x7.dq-a2)⟩:ah))} r6) λr15=>ς r15) (ς {r1 with eW:=WR (r1.eW+a2),ak:=(r1.ak.set (r6).toNat (⟨x8.ax,WR (x7.dq-a2)⟩:ah))})) λ(v14:aj)=>ς (v14,ζ)))
def oL(a0:aj)(a1:cq):Option (aj×cq):=
 aeP (fk a0 a1) λr1=>cond (!r1) (aeP (er a0) λr2=>ς (r2,a1)) (aeP (LS a0 a1.ax a1.et) λr3=>cond (!r3.2) (aeP (er a0) λr4=>ς (r4,a1)) (ς (r3.1,(⟨a1.ax,WR (a1.cH-a1.et),0⟩:cq))))
def UH(a0:Int)(a1:Int):Option Int:=
 cond (ltB a1 a0) (ς a1) (ς a0)
instance XW{r:Int}:FC prog (UH a0 a1=ς r) 188 [aI a0,aI a1] [.c (.d (.i .i64 r))]:=gG func188 ntmps188
end Go.AM
