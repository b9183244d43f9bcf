/- A part. -/
import Derived.Test.YtbfpkbncbebapaaGreatI13
set_option linter.unusedVariables false
open Option renaming bind->aaC
namespace Go.AM
open Go.Proofs
open Tryz
attribute [local irreducible] AWN NS AWO AWR AWC DR dO ip
set_option maxRecDepth 100000
set_option maxHeartbeats 40000000
def uW (a0:ab) (a1:cr):Option (Bool×ab):=
 aaC (jF a0.bX a1.bR) λr1=>aaC (bif !r1 then(some true) else(aaC (tZ a0 a1.bR) λr3=>some (booB r3 (eqB a1.aS 10)))) λ(v2:Bool)=>bif v2 then(some (false,a0)) else(bif leB 0 a1.bR then(some (true,{a0 with bp:=Jn .i64 a0.bp (mW .i64 1 a1.bR)})) else none)
def sC (a0:cd) (a1:Int):Option Bool:=
 aaC (jw a0) λr1=>aaC (bif r1 then(aaC (bE a1 0 (WR (a0.hP-1))) λr3=>bif r3 then(bif leB 0 a1 then(some (eqB (yw .i64 (Cc .i64 a0.f7 a1) 1) 1)) else none) else(some false)) else(some false)) λ(v2:Bool)=>some v2
def A6 (a0:ae):Option ae:=
 aaC (gr a0) λr1=>some {r1 with aO:=c7,bi:=0,c9:=0,eo:=eB,cR:=0}
def nB (a0:Int) (a1:Int):Option Int:=
 aaC (eJ 17 [a0,a1]) λr1=>some (Int.tmod (WR (r1*r1)) 2147483647)
def jh (a0:cd) (a1:Int):(Int×Int×Int)->Option (cK (Int×Int×Int) (Int))
 |(v2,v3,v4)=>bif ltB v4 a0.hP then(aaC (sC a0 v4) λr10=>bif !r10 then(some (.next (v2,v3,WR (v4+1)))) else(aaC (nB v4 a1) λr11=>aaC (bif ltB v3 r11 then(some (v4,r11)) else(some (v2,v3))) λ((v12,v13):Int×Int)=>some (.next (v12,v13,WR (v4+1))))) else(some (.done v2))
def oS (a0:cd) (a1:Int):Option Int:=
 aaC (jw a0) λr1=>bif !r1 then(some (-1)) else(aaC (iter (jh a0 a1) FU (-1,-1,0)) λ(v9:Int)=>some v9)
def uU (a0:cd) (a1:Int) (a2:Bool):Option cd:=
 aaC (jw a0) λr1=>aaC (bif !r1 then(some true) else(aaC (bE a1 0 (WR (a0.hP-1))) λr3=>some (!r3))) λ(v2:Bool)=>bif v2 then(some a0) else(aaC (bif a2 then(bif leB 0 a1 then(some (bOr .i64 a0.f7 (mW .i64 1 a1))) else none) else(bif leB 0 a1 then(some (xl .i64 a0.f7 (mW .i64 1 a1))) else none)) λ(v4:Int)=>some (⟨a0.hP,v4⟩:cd))
def kB (a0:ab) (r4:cd):(Int×List ae)->Option (cK (Int×List ae) (List ae))
 |(v5,v6)=>bif ltB v5 (a0.aj.length:Int) then(aaC (oS a0.eD v5) λr14=>aaC (oS r4 v5) λr15=>aaC (bif !eqB r14 r15 then(aaC (ix v6 v5) λx17=>aaC (A6 x17) λr18=>aaC (ix v6 v5) λx19=>some (v6.set (v5).toNat r18)) else(some v6)) λ(v16:List ae)=>some (.next (WR (v5+1),v16))) else(some (.done v6))
def rz (a0:ab) (a1:cr):Option (Bool×ab):=
 aaC (bE a1.bR 0 (WR (a0.eD.hP-1))) λr1=>aaC (bif !r1 then(some true) else(aaC (sC a0.eD a1.bR) λr3=>some (booB r3 (eqB a1.aS 12)))) λ(v2:Bool)=>bif v2 then(some (false,a0)) else(aaC (uU a0.eD a1.bR (eqB a1.aS 12)) λr4=>bif eqB r4.f7 0 then(some (false,a0)) else(aaC (iter (kB a0 r4) FU (0,a0.aj)) λ(v13:List ae)=>some (true,{a0 with aj:=v13,eD:=r4})))
def Mm (a0:ab) (a1:a9):Option (Bool×ab):=
 aaC (bif leB 200 (a0.aA.length:Int) then(some true) else(aaC (bE a1.aJ 0 (WR ((a0.ah.length:Int)-1))) λr2=>bif !r2 then(some true) else(aaC (jF a0.bX a1.aE) λr3=>some (!r3)))) λ(v1:Bool)=>bif v1 then(some (false,a0)) else(aaC (pz a0 a1) λr4=>some (true,r4))
def mK (a0:ab) (a1:cr):Option (Bool×ab):=
 bif eqB a1.aS 1 then(aaC (J3 a0) λr1=>some (r1.1,r1.2)) else(aaC (bif eqB a1.aS 2 then(some (eqB a1.aS 2)) else(aaC (bif eqB a1.aS 3 then(some (eqB a1.aS 3)) else(some (eqB a1.aS 4))) λ(v3:Bool)=>some v3)) λ(v2:Bool)=>bif v2 then(aaC (ry a0 a1) λr4=>some (r4.1,r4.2)) else(aaC (bif eqB a1.aS 5 then(some (eqB a1.aS 5)) else(aaC (bif eqB a1.aS 6 then(some (eqB a1.aS 6)) else(aaC (bif eqB a1.aS 7 then(some (eqB a1.aS 7)) else(some (eqB a1.aS 8))) λ(v7:Bool)=>some v7)) λ(v6:Bool)=>some v6)) λ(v5:Bool)=>bif v5 then(aaC (f9 a0 a1) λr8=>some (r8.1,r8.2)) else(aaC (bif eqB a1.aS 9 then(some (eqB a1.aS 9)) else(some (eqB a1.aS 10))) λ(v9:Bool)=>bif v9 then(aaC (uW a0 a1) λr10=>some (r10.1,r10.2)) else(aaC (bif eqB a1.aS 11 then(some (eqB a1.aS 11)) else(some (eqB a1.aS 12))) λ(v11:Bool)=>bif v11 then(aaC (rz a0 a1) λr12=>some (r12.1,r12.2)) else(bif eqB a1.aS 13 then(aaC (Mm a0 a1.dK) λr13=>some (r13.1,r13.2)) else(some (false,a0)))))))
def pU (a0:ab) (a1:cr):Option (Bool×ab):=
 aaC (jC a0 {a1 with aS:=5}) λr1=>some (r1.1,r1.2)
theorem zM {a0:ab} {a1:cr} {r:Bool×ab} (H:pU a0 a1=some r):FnV prog 49 (nI a0) [tP 200,.v (.agg (kM [.t,.t] (oL {a1 with aS:=5})))] (nI r.2) (.v (.c (.d false (.b r.1)))) []:=by
 refine fV func49 ntmps49 ?_
 refine aa H λr1 q1 H=>sA (cwu m0 [] 211 (tu q1)) ?_
 cases H
 exact cV
def iG (a0:ab) (a1:cr):Option (ab×Bool):=
 aaC (fr a0) λr1=>aaC (fo a0) λr2=>aaC (bif !r2 then(some (true,r1)) else(aaC (mK r1 a1) λr15=>some (!r15.1,r15.2))) λ((v3,v14):Bool×ab)=>bif v3 then(aaC (fr a0) λr16=>some (r16,false)) else(some (v14,true))
def mh (a0:ab) (a1:cr):Option (ab×Bool):=
 aaC (fr a0) λr1=>aaC (fo a0) λr2=>aaC (bif !r2 then(some (true,r1)) else(aaC (pU r1 {a1 with aS:=5}) λr15=>some (!r15.1,r15.2))) λ((v3,v14):Bool×ab)=>bif v3 then(aaC (fr a0) λr16=>some (r16,false)) else(some (v14,true))
theorem zx {a0:ab} {a1:cr} {r:ab×Bool} (H:mh a0 a1=some r):FnV prog 13 [] [.v (.agg (kM [.t,.t,.t,.t,.t] (bD a0))),.v (.agg (kM [.t,.t] (oL {a1 with aS:=5})))] [] (.tup [.agg (kM [.t,.w 210,.w 211,.w 212,.w 213] (bD r.1)),.c (.d false (.b r.2))]) [(210,w86 r.1.ah),(211,w69 r.1.aj),(212,w89 r.1.aB),(213,w48 r.1.aA)]:=by
 refine fV func13 ntmps13 ?_
 refine aa H λr1 q1 H=>nA (ca (hF:=im q1)) ?_
 refine aa H λr2 q2 H=>nA (ca (hF:=iH q2)) ?_
 obtain⟨⟨v3,v14⟩,Hj,H⟩:=ob H
 refine jR ⟨[(2,tP 210),(4,tP 212),(6,tP 218),(16,tB v3)],(oM [.t,.w 214,.w 215,.w 216,.w 217] 218 34 (bD v14)++[(210,.var 34 (kM [.t,.t,.t,.t,.t] (bD a0))),(212,.var 34 (kM [.z,.z,.z,.z,.z] (bD {eX with bX:=(⟨[]⟩:aU)})))]),219⟩ ?_ ?_
 .refine gC Hj ?_ ?_<;>intro H
  .cases H
   refine aH (bw (o:=213)) ?_
   refine aH (bJ (k:=8)) ?_
   refine aH (cS (o:=218)) ?_
   exact wo
  refine aa H λr15 q15 H=>bN (bw (o:=213)) ?_
  refine bN (bJ (k:=8)) ?_
  refine bN (cS (o:=218)) ?_
  refine sG (cwu [(190,214),(191,215),(192,216),(193,217),(200,218)] [] 219 (zM q15)) ?_
  exact ai H
 refine cC H ?_ ?_<;>intro H
 .refine aa H λr16 q16 H=>nA (ca (hF:=im q16)) ?_
  cases H
  refine bO ((bw (o:=219))) ?_
  refine bO ((bJ (k:=18))) ?_
  refine bO ((cS (o:=212))) ?_
  refine bO (wS 220 210) ?_
  refine bO (wS 221 211) ?_
  refine bO (wS 222 212) ?_
  refine bO (wS 223 213) ?_
  exact cV
 cases H
 refine bO (wS 214 210) ?_
 refine bO (wS 215 211) ?_
 refine bO (wS 216 212) ?_
 refine bO (wS 217 213) ?_
 exact cV
def HR (a0:ab):Option ab:=
 aaC (xt a0 80) λr1=>some r1
theorem PH {a0:ab} {r:ab} (H:HR a0=some r):Fn prog 26 [.agg (fC a0)] [.agg (qM [.d,.o,.o,.o,.o] (bD r))]:=by
 refine fI func26 ntmps26 ?_
 refine aa H λr1 q1 H=>nA (ca (hF:=Gd q1)) ?_
 exact ao H
end Go.AM
