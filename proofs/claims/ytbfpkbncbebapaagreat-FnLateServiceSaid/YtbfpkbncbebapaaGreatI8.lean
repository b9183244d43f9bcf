/- A part. -/
import Derived.Test.YtbfpkbncbebapaaGreatI5
import Derived.Test.YtbfpkbncbebapaaGreatI7
set_option linter.unusedVariables false
open Option renaming bind->aaC
namespace Go.AM
open Go.Proofs
open Tryz
attribute [local irreducible] AWN NS AWO AWR AWC DR dO ip
set_option maxRecDepth 100000
set_option maxHeartbeats 40000000
def pj (a0:Int) (a1:kJ):Option Int:=
 aaC (uY a0 a1.Steps) λr1=>some r1
theorem yb {a0:Int} {a1:kJ} {r:Int} (H:pj a0 a1=some r):Fn prog 255 [aI a0,.agg (PB a1)] [.c (.d (.i .i64 r))]:=by
 refine fI func255 ntmps255 ?_
 refine aa H λr1 q1 H=>nA (ca (hF:=D2 q1)) ?_
 exact ao H
def rx (a0:Int) (a1:aR):Option Int:=
 aaC (nE) λr1=>aaC (pj a0 r1) λr2=>aaC (eJ r2 [23,a1.aS,a1.aE,a1.ag,a1.aF,a1.bI]) λr3=>some r3
theorem zL {a0:Int} {a1:aR} {r:Int} (H:rx a0 a1=some r):Fn prog 244 [aI a0,.agg (dY a1)] [.c (.d (.i .i64 r))]:=by
 refine fI func244 ntmps244 ?_
 refine aa H λr1 q1 H=>nA (ca (hF:=xP q1)) ?_
 refine aa H λr2 q2 H=>nA (ca (hF:=yb q2)) ?_
 refine aa H λr3 q3 H=>nA (ca (hF:=eM q3)) ?_
 exact ao H
def qH (a0:Int) (a1:Int):Option Int:=
 aaC (tl a1) λr1=>aaC (pj a0 r1) λr2=>some r2
theorem sE {a0:Int} {a1:Int} {r:Int} (H:qH a0 a1=some r):Fn prog 175 [aI a0,aI a1] [.c (.d (.i .i64 r))]:=by
 refine fI func175 ntmps175 ?_
 refine aa H λr1 q1 H=>nA (ca (hF:=Cj q1)) ?_
 refine aa H λr2 q2 H=>nA (ca (hF:=yb q2)) ?_
 exact ao H
def pQ (a0:aP) (a1:Int):Option (aP×dH):=
 aaC (fg a0) λr1=>aaC (bif !r1 then(some true) else(some (eqB a0.cQ 999999))) λ(v2:Bool)=>bif v2 then(some (a0,c7)) else(aaC (kR a0.eR a1 (WR (a0.cQ+1))) λr3=>some ({a0 with cQ:=WR (a0.cQ+1)},r3))
theorem zF {a0:aP} {a1:Int} {r:aP×dH} (H:pQ a0 a1=some r):Fn prog 326 [.agg (cE a0),aI a1] [.agg (qM [] (mB r.1)),.agg (qM [] (lv r.2))]:=by
 refine fI func326 ntmps326 ?_
 refine aa H λr1 q1 H=>nA (ca (hF:=kQ q1)) ?_
 refine aa H λv2 Hj H=>jR ⟨[(1,tI a1),(2,tP 0),(4,tP 1),(5,tP 2),(13,tB v2)],[(0,.var 56 (kM [] (mB a0))),(1,.var 56 (kM [] (mB rY))),(2,.var 40 (kM [] (lv c7)))],3⟩ ?_ ?_
 .refine gC Hj ?_ ?_<;>intro H
  .exact ai H
  exact ai H
 refine cC H ?_ ?_<;>intro H
 .exact ao H
 refine zI (List.range 9) ?_
 refine aa H λr3 q3 H=>zA (ca (hF:=ua q3)) ?_
 refine wA (spx 100614) ?_
 refine wA (spx 100613) ?_
 exact ao H
def nq (a0:ae) (a1:aR):Option bT:=
 aaC (mY a0.be.ID (WR (a0.be.cQ+1))) λr1=>aaC (pQ a0.be r1) λr2=>bif(eqB r2.1.ID.d8 a0.be.ID.d8&&(eqB r2.1.ID.bI a0.be.ID.bI&&(eqB r2.1.eR a0.be.eR&&(eqB r2.1.cQ a0.be.cQ&&true)))) then(aaC (db a0 []) λr3=>some r3) else(aaC (db {a0 with be:=r2.1,aO:=r2.2,bi:=r2.1.cQ} [(⟨2,a1.aE,r2.1.cQ,0,0,r2.2,0⟩:aR)]) λr4=>some r4)
theorem A9 {a0:ae} {a1:aR} {r:bT} (H:nq a0 a1=some r):Fn prog 287 [.agg (cG a0),.agg (dY a1)] [.agg (qM [.o,.o,.o,.o] (dU r))]:=by
 refine fI func287 ntmps287 ?_
 refine zI (List.range 18) ?_
 refine aa H λr1 q1 H=>zA (ca (hF:=A5 q1)) ?_
 refine aa H λr2 q2 H=>zA (ca (hF:=zF q2)) ?_
 refine wA (spx 100618) ?_
 refine wA (spx 100617) ?_
 refine cC H ?_ ?_<;>intro H
 .refine aa H λr3 q3 H=>nA (ca (hF:=ef q3)) ?_
  exact ao H
 refine aa H λr4 q4 H=>nA (ca (hF:=ef q4)) ?_
 exact ao H
def oT (a0:Int) (a1:Int) (a2:dH):Option Int:=
 aaC (jP a0 a2.gN a2.lp) λr1=>aaC (eJ a0 [2,a2.gN,r1]) λr2=>bif !eqB a2.tL r2 then(some 1) else(bif leB r1 a1 then(some 2) else(bif ltB (WR (a1+1000)) r1 then(some 3) else(some 0)))
theorem Cn {a0:Int} {a1:Int} {a2:dH} {r:Int} (H:oT a0 a1 a2=some r):Fn prog 165 [aI a0,aI a1,.agg (uP a2)] [.c (.d (.i .i64 r))]:=by
 refine fI func165 ntmps165 ?_
 refine aa H λr1 q1 H=>nA (ca (hF:=sL q1)) ?_
 refine dI ?_
 refine aa H λr2 q2 H=>dA (ca (hF:=eM q2)) ?_
 refine wI ?_
 refine cC H ?_ ?_<;>intro H
 .exact ao H
 refine cC H ?_ ?_<;>intro H
 .exact ao H
 refine cC H ?_ ?_<;>intro H
 .exact ao H
 exact ao H
def lG (a0:qf) (a1:dH):Option (qf×jV):=
 aaC (nm a0) λr1=>bif !r1 then(some (a0,{iv with Code:=1})) else(aaC (oT a0.eR a0.df a1) λr2=>aaC (bif eqB r2 0 then(aaC (jP a0.eR a1.gN a1.lp) λr8=>aaC (eJ a0.eR [3,a1.gN]) λr9=>aaC (kR a0.eR a1.gN r8) λr10=>some (r8,(⟨r2,r9,r10.eR,0⟩:jV))) else(aaC (bif eqB r2 2 then(some (eqB r2 2)) else(some (eqB r2 3))) λ(v11:Bool)=>aaC (bif v11 then(aaC (qt a0.eR a1.gN a0.df) λr13=>some r13) else(some 0)) λ(v12:Int)=>some (a0.df,{iv with Code:=r2,QZ:=v12}))) λ((v6,v7):Int×jV)=>some ({a0 with df:=v6},v7))
theorem vS {a0:qf} {a1:dH} {r:qf×jV} (H:lG a0 a1=some r):Fn prog 333 [.agg (LW a0),.agg (uP a1)] [.agg (qM [] (yF r.1)),.agg (qM [] (ie r.2))]:=by
 refine fI func333 ntmps333 ?_
 refine aa H λr1 q1 H=>nA (ca (hF:=wv q1)) ?_
 refine cC H ?_ ?_<;>intro H
 .exact ao H
 refine aa H λr2 q2 H=>nA (ca (hF:=Cn q2)) ?_
 obtain⟨⟨v6,v7⟩,Hj,H⟩:=ob H
 refine jA ⟨[(2,tP 0),(4,tP 2),(5,tP 3),(7,tP 4)],[(0,.var 84 (kM [] (yF {a0 with df:=v6}))),(2,.var 84 (kM [] (yF IX))),(3,.var 286 (kM [] (ie iv))),(4,.var 286 (kM [] (ie v7)))],5⟩ ?_ ?_
 .refine cC Hj ?_ ?_<;>intro H
  .refine aa H λr8 q8 H=>nA (ca (hF:=sL q8)) ?_
   refine aa H λr9 q9 H=>nA (ca (hF:=eM q9)) ?_
   refine aa H λr10 q10 H=>nA (ca (hF:=ua q10)) ?_
   exact ai H
  refine aa H λv11 Hj H=>jA ⟨[(2,tP 0),(3,tP 1),(4,tP 2),(5,tP 3),(7,tP 4),(49,tB v11)],[(0,.var 84 (kM [] (yF a0))),(1,.var 40 (kM [] (lv a1))),(2,.var 84 (kM [] (yF IX))),(3,.var 286 (kM [] (ie iv))),(4,.var 286 (kM [] (ie {iv with Code:=r2})))],5⟩ ?_ ?_
  .refine cC Hj ?_ ?_<;>intro H
   .exact ai H
   exact ai H
  refine aa H λv12 Hj H=>jA ⟨[(2,tP 0),(4,tP 2),(5,tP 3),(7,tP 4)],[(0,.var 84 (kM [] (yF a0))),(2,.var 84 (kM [] (yF IX))),(3,.var 286 (kM [] (ie iv))),(4,.var 286 (kM [] (ie {iv with Code:=r2,QZ:=v12})))],5⟩ ?_ ?_
  .refine cC Hj ?_ ?_<;>intro H
   .refine aa H λr13 q13 H=>nA (ca (hF:=DX q13)) ?_
    exact ai H
   exact ai H
  exact ai H
 refine zI (List.range 4) ?_
 refine wA (spx 100642) ?_
 refine wA (spx 100641) ?_
 exact ao H
def pW (a0:ab) (a1:cr):Option (Bool×ab):=
 aaC (jE a0 {a1 with aS:=7}) λr1=>some (r1.1,r1.2)
theorem zP {a0:ab} {a1:cr} {r:Bool×ab} (H:pW a0 a1=some r):FnV prog 49 (nI a0) [tP 200,.v (.agg (kM [.t,.t] (oL {a1 with aS:=7})))] (nI r.2) (.v (.c (.d false (.b r.1)))) []:=by
 refine fV func49 ntmps49 ?_
 refine aa H λr1 q1 H=>sA (cwu m0 [] 211 (tw q1)) ?_
 cases H
 exact cV
def ml (a0:ab) (a1:cr):Option (ab×Bool):=
 aaC (fr a0) λr1=>aaC (fo a0) λr2=>aaC (bif !r2 then(some (true,r1)) else(aaC (pW r1 {a1 with aS:=7}) λr15=>some (!r15.1,r15.2))) λ((v3,v14):Bool×ab)=>bif v3 then(aaC (fr a0) λr16=>some (r16,false)) else(some (v14,true))
theorem zy {a0:ab} {a1:cr} {r:ab×Bool} (H:ml a0 a1=some r):FnV prog 13 [] [.v (.agg (kM [.t,.t,.t,.t,.t] (bD a0))),.v (.agg (kM [.t,.t] (oL {a1 with aS:=7})))] [] (.tup [.agg (kM [.t,.w 210,.w 211,.w 212,.w 213] (bD r.1)),.c (.d false (.b r.2))]) [(210,w86 r.1.ah),(211,w69 r.1.aj),(212,w89 r.1.aB),(213,w48 r.1.aA)]:=by
 refine fV func13 ntmps13 ?_
 refine aa H λr1 q1 H=>nA (ca (hF:=im q1)) ?_
 refine aa H λr2 q2 H=>nA (ca (hF:=iH q2)) ?_
 obtain⟨⟨v3,v14⟩,Hj,H⟩:=ob H
 refine jR ⟨[(2,tP 210),(4,tP 212),(6,tP 218),(16,tB v3)],(oM [.t,.w 214,.w 215,.w 216,.w 217] 218 34 (bD v14)++[(210,.var 34 (kM [.t,.t,.t,.t,.t] (bD a0))),(212,.var 34 (kM [.z,.z,.z,.z,.z] (bD {eX with bX:=(⟨[]⟩:aU)})))]),219⟩ ?_ ?_
 .refine gC Hj ?_ ?_<;>intro H
  .cases H
   refine aH (bw (o:=213)) ?_
   refine aH (bJ (k:=8)) ?_
   refine aH (cS (o:=218)) ?_
   exact wo
  refine aa H λr15 q15 H=>bN (bw (o:=213)) ?_
  refine bN (bJ (k:=8)) ?_
  refine bN (cS (o:=218)) ?_
  refine sG (cwu [(190,214),(191,215),(192,216),(193,217),(200,218)] [] 219 (zP q15)) ?_
  exact ai H
 refine cC H ?_ ?_<;>intro H
 .refine aa H λr16 q16 H=>nA (ca (hF:=im q16)) ?_
  cases H
  refine bO ((bw (o:=219))) ?_
  refine bO ((bJ (k:=18))) ?_
  refine bO ((cS (o:=212))) ?_
  refine bO (wS 220 210) ?_
  refine bO (wS 221 211) ?_
  refine bO (wS 222 212) ?_
  refine bO (wS 223 213) ?_
  exact cV
 cases H
 refine bO (wS 214 210) ?_
 refine bO (wS 215 211) ?_
 refine bO (wS 216 212) ?_
 refine bO (wS 217 213) ?_
 exact cV
def xq (a0:ab):Int->Option (cK (Int) (Bool))
 |v2=>bif ltB v2 (a0.ah.length:Int) then(aaC (kw a0 v2) λr3=>aaC (bif !r3 then(some true) else(aaC (iZ a0 v2) λr5=>bif !r5 then(some true) else(aaC (fM a0 v2) λr6=>some (!r6)))) λ(v4:Bool)=>bif v4 then(dn (some false)) else(some (.next (WR (v2+1))))) else(dn (some true))
def DL (a0:ab):Option Bool:=
 aaC (fo a0) λr1=>bif !r1 then(some false) else(iter (xq a0) FU 0)
theorem So {a0:ab} {r:Bool} (H:DL a0=some r):Fn prog 27 [.agg (fC a0)] [.c (.d (.b r))]:=by
 refine fI func27 ntmps27 ?_
 refine aa H λr1 q1 H=>nA (ca (hF:=iH q1)) ?_
 refine cC H ?_ ?_<;>intro H
 .exact ao H
 refine iT H (λq=>⟨[(1,tP 0),(9,tI (a0.ah.length:Int)),(10,tI q)],[(0,.var 34 (kM [.f,.f,.f,.f,.f] (bD a0)))],1⟩) ?_
 rintro v2 o H
 try dsimp only
 refine wI ?_
 refine cC H ?_ ?_<;>intro H
 .refine aa H λr3 q3 H=>nA (ca (hF:=xO q3)) ?_
  refine aa H λv4 Hj H=>jR ⟨[(1,tP 0),(9,tI (a0.ah.length:Int)),(10,tI v2),(28,tB v4)],[(0,.var 34 (kM [.f,.f,.f,.f,.f] (bD a0)))],1⟩ ?_ ?_
  .refine gC Hj ?_ ?_<;>intro H
   .exact ai H
   refine aa H λr5 q5 H=>nG (ca (hF:=vR q5)) ?_
   refine gC H ?_ ?_<;>intro H
   .exact ai H
   refine aa H λr6 q6 H=>nG (ca (hF:=pP q6)) ?_
   exact ai H
  refine cC H ?_ ?_<;>intro H
  .obtain⟨r0,Hd,rfl⟩:=dnE H
   refine mR (λhq=>?_)
   have H:=Hd.trans (congrArg some hq)
   refine wI ?_
   exact ao H
  cases H
  refine eA ?_
  exact wo
 obtain⟨r0,Hd,rfl⟩:=dnE H
 refine et (λhq=>?_)
 have H:=Hd.trans (congrArg some hq)
 refine wI ?_
 exact ao H
end Go.AM
