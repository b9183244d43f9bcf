/- A part. -/
import Derived.Test.YtbfpkbncbebapaaGreatI12
set_option linter.unusedVariables false
open Option renaming bind->aaC
namespace Go.AM
open Go.Proofs
open Tryz
attribute [local irreducible] AWN NS AWO AWR AWC DR dO ip
set_option maxRecDepth 100000
set_option maxHeartbeats 40000000
def ry (a0:ab) (a1:cr):Option (Bool×ab):=
 aaC (bE a1.bR 0 (WR ((a0.aA.length:Int)-1))) λr1=>bif !r1 then(some (false,a0)) else(bif eqB a1.aS 2 then(aaC (wH a0 a1.bR) λr2=>some (true,r2)) else(bif eqB a1.aS 3 then(aaC (pA a0 a1.bR) λr3=>some (true,{r3.2 with Lost:=WR (r3.2.Lost+1)})) else(bif eqB a1.aS 4 then(bif leB 200 (a0.aA.length:Int) then(some (false,a0)) else(aaC (ix a0.aA a1.bR) λx4=>aaC (pz a0 x4) λr5=>some (true,r5))) else(some (true,a0)))))
def wy (a0:aw):Option bg:=
 bif !eqB a0.aG 0 then(aaC (cm a0 []) λr1=>some r1) else(aaC (lV {a0 with aG:=1,di:=3}) λr2=>aaC (cm {a0 with aG:=1,di:=3} [r2]) λr3=>some r3)
theorem Mf {a0:aw} {r:bg} (H:wy a0=some r):Fn prog 180 [.agg (dq a0)] [.agg (qM [.o,.o,.o] (cM r))]:=by
 refine fI func180 ntmps180 ?_
 refine cC H ?_ ?_<;>intro H
 .refine aa H λr1 q1 H=>nA (ca (hF:=cN q1)) ?_
  exact ao H
 refine mz [0,1,2,3,4,5] (h:=?_)
 refine wkb ?_
 refine aa H λr2 q2 H=>iS rfl (ca (hF:=vG q2)) ?_
 refine wkb ?_
 refine tg rfl (bsx (bs rfl rfl rfl rfl rfl rfl rfl rfl) rfl) ?_
 refine wkb ?_
 refine aa H λr3 q3 H=>iS rfl (ca (hF:=cN q3)) ?_
 refine wkb ?_
 refine tg rfl (spx 100660) ?_
 refine wkb ?_
 refine wI ?_
 exact ao H
def tq (a0:ae) (a1:List Int):Option (ae×Bool):=
 aaC (gr a0) λr1=>aaC (bif leB 24 (a0.ax.length:Int) then(some true) else(some (ltB 60 (a1.length:Int)))) λ(v2:Bool)=>bif v2 then(some (r1,false)) else(aaC (eK a1) λr3=>bif em 24 (r1.ax++[(⟨r3⟩:bm)]).length then(some ({r1 with ax:=(r1.ax++[(⟨r3⟩:bm)])},true)) else none)
def f9 (a0:ab) (a1:cr):Option (Bool×ab):=
 aaC (bE a1.bR 0 (WR ((a0.ah.length:Int)-1))) λr1=>bif !r1 then(some (false,a0)) else(bif eqB a1.aS 5 then(aaC (ix a0.ah a1.bR) λx2=>bif !eqB x2.aG 0 then(some (false,a0)) else(aaC (ix a0.ah a1.bR) λx3=>aaC (wy x3) λr4=>aaC (fw a0 a1.bR r4) λr5=>some (true,r5))) else(bif eqB a1.aS 6 then(aaC (jF a0.bX a1.aE) λr6=>aaC (bif !r6 then(some true) else(aaC (ix a0.ah a1.bR) λx8=>some (eqB a1.aE x8.aE))) λ(v7:Bool)=>bif v7 then(some (false,a0)) else(aaC (ix a0.ah a1.bR) λx9=>aaC (pk x9 a1.aE) λr10=>aaC (fw a0 a1.bR r10) λr11=>some (true,r11))) else(bif eqB a1.aS 7 then(aaC (ix a0.ah a1.bR) λx12=>bif !eqB x12.aG 2 then(some (false,a0)) else(aaC (ix a0.ah a1.bR) λx13=>aaC (rj x13) λr14=>aaC (ix a0.ah a1.bR) λx15=>some (true,{a0 with ah:=(a0.ah.set (a1.bR).toNat r14)}))) else(bif eqB a1.aS 8 then(aaC (ix a0.aj a1.bR) λx16=>aaC (tq x16 a1.a8) λr17=>bif !r17.2 then(some (false,a0)) else(aaC (ix a0.aj a1.bR) λx18=>some (true,{a0 with aj:=(a0.aj.set (a1.bR).toNat r17.1)}))) else(some (true,a0))))))
def jC (a0:ab) (a1:cr):Option (Bool×ab):=
 aaC (bE a1.bR 0 (WR ((a0.ah.length:Int)-1))) λr1=>bif !r1 then(some (false,a0)) else(aaC (ix a0.ah a1.bR) λx2=>bif !eqB x2.aG 0 then(some (false,a0)) else(aaC (ix a0.ah a1.bR) λx3=>aaC (wy x3) λr4=>aaC (fw a0 a1.bR r4) λr5=>some (true,r5)))
theorem tu {a0:ab} {a1:cr} {r:Bool×ab} (H:jC a0 a1=some r):FnV prog 114 (nI a0) [tP 200,.v (.agg (kM [.t,.t] (oL {a1 with aS:=5})))] (nI r.2) (.v (.c (.d false (.b r.1)))) []:=by
 refine fV func114 ntmps114 ?_
 refine aa H λr1 q1 H=>nA (ca (hF:=bA q1)) ?_
 refine cC H ?_ ?_<;>intro H
 .cases H
  exact cV
 refine aa H λx2 hx2 H=>nA (xwT hx2) ?_
 refine nA (oe (he:=eU _ hx2)) ?_
 refine cC H ?_ ?_<;>intro H
 .cases H
  exact cV
 refine aa H λx3 hx3 H=>nA (xwT hx3) ?_
 refine nA (oea (he:=eU _ hx3)) ?_
 refine aa H λr4 q4 H=>nA (ca (hF:=Mf q4)) ?_
 refine aa H λr5 q5 H=>bN (bw (o:=211)) ?_
 refine bN (bw (o:=212)) ?_
 refine bN (bw (o:=213)) ?_
 refine bN (bJ (k:=41)) ?_
 refine sA (cwu m0 [] 214 (kY q5)) ?_
 cases H
 exact cV
def jD (a0:ab) (a1:cr):Option (Bool×ab):=
 aaC (bE a1.bR 0 (WR ((a0.ah.length:Int)-1))) λr1=>bif !r1 then(some (false,a0)) else(aaC (jF a0.bX a1.aE) λr2=>aaC (bif !r2 then(some true) else(aaC (ix a0.ah a1.bR) λx4=>some (eqB a1.aE x4.aE))) λ(v3:Bool)=>bif v3 then(some (false,a0)) else(aaC (ix a0.ah a1.bR) λx5=>aaC (pk x5 a1.aE) λr6=>aaC (fw a0 a1.bR r6) λr7=>some (true,r7)))
theorem tv {a0:ab} {a1:cr} {r:Bool×ab} (H:jD a0 a1=some r):FnV prog 114 (nI a0) [tP 200,.v (.agg (kM [.t,.t] (oL {a1 with aS:=6})))] (nI r.2) (.v (.c (.d false (.b r.1)))) []:=by
 refine fV func114 ntmps114 ?_
 refine aa H λr1 q1 H=>nA (ca (hF:=bA q1)) ?_
 refine cC H ?_ ?_<;>intro H
 .cases H
  exact cV
 refine dI ?_
 refine aa H λr2 q2 H=>dA (ca (hF:=lD q2)) ?_
 refine aa H λv3 Hj H=>jt ⟨[(0,tP 200),(3,tP 210),(5,tI a1.bR),(65,tB v3)],(nI a0++[(210,.var 50 (kM [.t,.t] (oL {a1 with aS:=6})))]),211⟩ ?_ ?_
 .have H:=Hj
  refine wI ?_
  refine dC H ?_ ?_<;>intro H
  .refine wI ?_
   exact ai H
  refine aa H λx4 hx4 H=>dG (xwT hx4) ?_
  refine dG (oe (he:=eU _ hx4)) ?_
  refine wI ?_
  exact ai H
 refine wI ?_
 refine cC H ?_ ?_<;>intro H
 .refine wI ?_
  cases H
  exact cV
 refine zI (List.range 13) ?_
 refine aa H λx5 hx5 H=>zA (xwT hx5) ?_
 refine zA (oea (he:=eU _ hx5)) ?_
 refine aa H λr6 q6 H=>zA (ca (hF:=Ff q6)) ?_
 refine aa H λr7 q7 H=>zB (aH (bw (o:=211)) (aH (bw (o:=212)) (aH (bw (o:=213)) (bJ (k:=77))))) (jp rfl (cwu m0 [] 214 (kY q7))) b7 ?_
 cases H
 exact cV
def pV (a0:ab) (a1:cr):Option (Bool×ab):=
 aaC (jD a0 {a1 with aS:=6}) λr1=>some (r1.1,r1.2)
theorem zN {a0:ab} {a1:cr} {r:Bool×ab} (H:pV a0 a1=some r):FnV prog 49 (nI a0) [tP 200,.v (.agg (kM [.t,.t] (oL {a1 with aS:=6})))] (nI r.2) (.v (.c (.d false (.b r.1)))) []:=by
 refine fV func49 ntmps49 ?_
 refine aa H λr1 q1 H=>sA (cwu m0 [] 211 (tv q1)) ?_
 cases H
 exact cV
def mj (a0:ab) (a1:cr):Option (ab×Bool):=
 aaC (fr a0) λr1=>aaC (fo a0) λr2=>aaC (bif !r2 then(some (true,r1)) else(aaC (pV r1 {a1 with aS:=6}) λr15=>some (!r15.1,r15.2))) λ((v3,v14):Bool×ab)=>bif v3 then(aaC (fr a0) λr16=>some (r16,false)) else(some (v14,true))
theorem sv {a0:ab} {a1:cr} {r:ab×Bool} (H:mj a0 a1=some r):FnV prog 13 [] [.v (.agg (kM [.t,.t,.t,.t,.t] (bD a0))),.v (.agg (kM [.t,.t] (oL {a1 with aS:=6})))] [] (.tup [.agg (kM [.t,.w 210,.w 211,.w 212,.w 213] (bD r.1)),.c (.d false (.b r.2))]) [(210,w86 r.1.ah),(211,w69 r.1.aj),(212,w89 r.1.aB),(213,w48 r.1.aA)]:=by
 refine fV func13 ntmps13 ?_
 refine aa H λr1 q1 H=>nA (ca (hF:=im q1)) ?_
 refine aa H λr2 q2 H=>nA (ca (hF:=iH q2)) ?_
 obtain⟨⟨v3,v14⟩,Hj,H⟩:=ob H
 refine jR ⟨[(2,tP 210),(4,tP 212),(6,tP 218),(16,tB v3)],(oM [.t,.w 214,.w 215,.w 216,.w 217] 218 34 (bD v14)++[(210,.var 34 (kM [.t,.t,.t,.t,.t] (bD a0))),(212,.var 34 (kM [.z,.z,.z,.z,.z] (bD {eX with bX:=(⟨[]⟩:aU)})))]),219⟩ ?_ ?_
 .refine gC Hj ?_ ?_<;>intro H
  .cases H
   refine aH (bw (o:=213)) ?_
   refine aH (bJ (k:=8)) ?_
   refine aH (cS (o:=218)) ?_
   exact wo
  refine aa H λr15 q15 H=>bN (bw (o:=213)) ?_
  refine bN (bJ (k:=8)) ?_
  refine bN (cS (o:=218)) ?_
  refine sG (cwu [(190,214),(191,215),(192,216),(193,217),(200,218)] [] 219 (zN q15)) ?_
  exact ai H
 refine cC H ?_ ?_<;>intro H
 .refine aa H λr16 q16 H=>nA (ca (hF:=im q16)) ?_
  cases H
  refine bO ((bw (o:=219))) ?_
  refine bO ((bJ (k:=18))) ?_
  refine bO ((cS (o:=212))) ?_
  refine bO (wS 220 210) ?_
  refine bO (wS 221 211) ?_
  refine bO (wS 222 212) ?_
  refine bO (wS 223 213) ?_
  exact cV
 cases H
 refine bO (wS 214 210) ?_
 refine bO (wS 215 211) ?_
 refine bO (wS 216 212) ?_
 refine bO (wS 217 213) ?_
 exact cV
def ji (a1:Int):(Int×ab)->Option (cK (Int×ab) (ab))
 |(v1,v12)=>aaC (bif ltB v1 a1 then(some (ltB 0 (v12.aA.length:Int))) else(some false)) λ(v26:Bool)=>bif v26 then(aaC (wH v12 0) λr27=>some (.next (WR (v1+1),r27))) else(some (.done v12))
def oU (a0:ab) (a1:Int):Option ab:=
 aaC (iter (ji a1) FU (0,a0)) λ(v25:ab)=>some v25
theorem Co {a0:ab} {a1:Int} {r:ab} (H:oU a0 a1=some r):FnV prog 73 (nI a0) [tP 200,tI a1] (nI r) (.tup []) []:=by
 refine fV func73 ntmps73 ?_
 refine aa H λv25 Hj H=>jB ⟨[],(nI v25),210⟩ ?_ ?_
 .refine iT Hj (λq=>⟨[(0,tP 200),(1,tI a1),(4,tI q.1)],(nI q.2),210⟩) ?_
  rintro⟨v1,v12⟩ o H
  try dsimp only
  refine wI ?_
  refine aa H λv26 Hj H=>jR ⟨[(0,tP 200),(1,tI a1),(4,tI v1),(15,tB v26)],(nI v12),210⟩ ?_ ?_
  .refine gC Hj ?_ ?_<;>intro H
   .exact ai H
   exact ai H
  refine cC H ?_ ?_<;>intro H
  .refine aa H λr27 q27 H=>sA (cwu m0 [] 210 (Mk q27)) ?_
   cases H
   refine eA ?_
   exact wo
  cases H
  refine et (λhq=>?_)
  cases hq
  refine wI ?_
  exact wo
 cases H
 exact rf
def rp (a1:Int):(Int×ab)->Option (cK (Int×ab) (ab))
 |(v5,v16)=>bif ltB v5 a1 then(aaC (J3 v16) λr30=>aaC (oU r30.2 4000) λr31=>some (.next (WR (v5+1),r31))) else(some (.done v16))
def xt (a0:ab) (a1:Int):Option ab:=
 aaC (fr a0) λr1=>aaC (fo a0) λr2=>aaC (bif !r2 then(some true) else(aaC (bE a1 0 200) λr4=>some (!r4))) λ(v3:Bool)=>bif v3 then(some r1) else(aaC (iter (rp a1) FU (0,r1)) λ(v29:ab)=>some v29)
theorem Gd {a0:ab} {a1:Int} {r:ab} (H:xt a0 a1=some r):Fn prog 25 [.agg (fC a0),aI a1] [.agg (qM [.d,.o,.o,.o,.o] (bD r))]:=by
 refine fI func25 ntmps25 ?_
 refine aa H λr1 q1 H=>nA (ca (hF:=im q1)) ?_
 refine aa H λr2 q2 H=>nA (ca (hF:=iH q2)) ?_
 refine aa H λv3 Hj H=>jR ⟨[(1,tI a1),(4,tP 1),(5,tP 7),(16,tB v3)],(oM [.w 2,.w 3,.w 4,.w 5,.w 6] 7 34 (bD r1)++[(1,.var 34 (kM [.z,.z,.z,.z,.z] (bD {eX with bX:=(⟨[]⟩:aU)})))]),8⟩ ?_ ?_
 .refine gC Hj ?_ ?_<;>intro H
  .exact ai H
  refine aa H λr4 q4 H=>nG (ca (hF:=bA q4)) ?_
  exact ai H
 refine cC H ?_ ?_<;>intro H
 .cases H
  refine tQ (bw (o:=2)) ?_
  refine tQ (cS (o:=1)) ?_
  exact ku
 refine aa H λv29 Hj H=>jB ⟨[(4,tP 1),(5,tP 7)],(oM [.t,.w 3,.w 4,.w 5,.w 6] 7 34 (bD v29)++[(1,.var 34 (kM [.z,.z,.z,.z,.z] (bD {eX with bX:=(⟨[]⟩:aU)})))]),8⟩ ?_ ?_
 .refine iT Hj (λq=>⟨[(1,tI a1),(4,tP 1),(5,tP 7),(6,tI q.1)],(oM [.t,.w 3,.w 4,.w 5,.w 6] 7 34 (bD q.2)++[(1,.var 34 (kM [.z,.z,.z,.z,.z] (bD {eX with bX:=(⟨[]⟩:aU)})))]),8⟩) ?_ (by refine aH (bw (o:=2)) ?_;refine aH (cS (o:=7)) ?_;exact wo)
  rintro⟨v5,v16⟩ o H
  try dsimp only
  refine wI ?_
  refine cC H ?_ ?_<;>intro H
  .refine aa H λr30 q30 H=>sA (cwu [(190,3),(191,4),(192,5),(193,6),(200,7)] [] 8 (Vx q30)) ?_
   refine aa H λr31 q31 H=>sA (cwu [(190,3),(191,4),(192,5),(193,6),(200,7)] [] 8 (Co q31)) ?_
   cases H
   refine eA ?_
   exact wo
  cases H
  refine et (λhq=>?_)
  cases hq
  refine wI ?_
  exact wo
 exact ao H
end Go.AM
