/- A part. -/
import Derived.Test.YtbfpkbncbebapaaGreatI3
set_option linter.unusedVariables false
open Option renaming bind->YL
namespace Go.AM
open Go.Proofs
open Tryz
attribute [local irreducible] AWN NS AWO AWR AWC DR dQ gQ
set_option maxRecDepth 100000
set_option maxHeartbeats 40000000
def iL (a0:a8) (a1:Int):(Int×Int×Int)->Option (cf (Int×Int×Int) (Int))
 |(v2,v3,v4)=>bif ltB v4 a0.dP then(YL (kc a0 v4) λr10=>bif !r10 then(some (.next (v2,v3,WR (v4+1)))) else(YL (jO v4 a1) λr11=>YL (bif ltB v3 r11 then(some (v4,r11)) else(some (v2,v3))) λ((v12,v13):Int×Int)=>some (.next (v12,v13,WR (v4+1))))) else(some (.done v2))
def gB (a0:a8) (a1:Int):Option Int:=
 YL (jb a0) λr1=>bif !r1 then(some (-1)) else(YL (iter (iL a0 a1) FU (-1,-1,0)) λ(v9:Int)=>some v9)
theorem o7 {a0:a8} {a1:Int} {r:Int} (H:gB a0 a1=some r):Fn prog 62 [.agg (ic a0),aI a1] [.c (.d (.i .i64 r))]:=by
 refine fI func62 ntmps62 ?_
 refine aa H λr1 q1 H=>nA (ca (hF:=mq q1)) ?_
 refine cC H ?_ ?_<;>intro H
 .exact ao H
 refine aa H λv9 Hj H=>jB ⟨[(5,tI v9)],[],0⟩ ?_ ?_
 .refine iT Hj (λq=>⟨[(1,tI a1),(2,tP 0),(5,tI q.1),(6,tI q.2.1),(7,tI q.2.2)],[(0,.var 32 (kM [] (cM a0)))],1⟩) ?_
  rintro⟨v2,v3,v4⟩ o H
  try dsimp only
  refine wI ?_
  refine cC H ?_ ?_<;>intro H
  .refine aa H λr10 q10 H=>nA (ca (hF:=sY q10)) ?_
   refine cC H ?_ ?_<;>intro H
   .cases H
    refine dy ?_
    exact wo
   refine aa H λr11 q11 H=>nA (ca (hF:=xJ q11)) ?_
   obtain⟨⟨v12,v13⟩,Hj,H⟩:=ob H
   refine jA ⟨[(1,tI a1),(2,tP 0),(5,tI v12),(6,tI v13),(7,tI v4)],[(0,.var 32 (kM [] (cM a0)))],1⟩ ?_ ?_
   .refine cC Hj ?_ ?_<;>intro H
    .exact ai H
    exact ai H
   cases H
   refine dy ?_
   exact wo
  cases H
  refine dF (λhq=>?_)
  cases hq
  refine wI ?_
  exact wo
 exact ao H
def ij (a0:ab) (r4:a8):(Int×List ah)->Option (cf (Int×List ah) (List ah))
 |(v5,v6)=>bif ltB v5 (a0.aj.length:Int) then(YL (gB a0.cq v5) λr14=>YL (gB r4 v5) λr15=>YL (bif !eqB r14 r15 then(YL (ix v6 v5) λx17=>YL (p9 x17) λr18=>YL (ix v6 v5) λx19=>some (v6.set (v5).toNat r18)) else(some v6)) λ(v16:List ah)=>some (.next (WR (v5+1),v16))) else(some (.done v6))
def mA (a0:ab) (a1:cR):Option (Bool×ab):=
 YL (ct a1.cm 0 (WR (a0.cq.dP-1))) λr1=>YL (bif !r1 then(some true) else(YL (kc a0.cq a1.cm) λr3=>some (booB r3 (eqB a1.aV 12)))) λ(v2:Bool)=>bif v2 then(some (false,a0)) else(YL (mx a0.cq a1.cm (eqB a1.aV 12)) λr4=>bif eqB r4.dm 0 then(some (false,a0)) else(YL (iter (ij a0 r4) FU (0,a0.aj)) λ(v13:List ah)=>some (true,{a0 with aj:=v13,cq:=r4})))
def mB (a0:ab) (r4:a8):(Int×List ah)->Option (cf (Int×List ah) (List ah))
 |(v5,v6)=>bif ltB v5 (a0.aj.length:Int) then(YL (gB a0.cq v5) λr14=>YL (gB r4 v5) λr15=>YL (bif !eqB r14 r15 then(YL (ix v6 v5) λx17=>YL (p9 x17) λr18=>YL (ix v6 v5) λx19=>some (v6.set (v5).toNat r18)) else(some v6)) λ(v16:List ah)=>some (.next (WR (v5+1),v16))) else(some (.done v6))
def iE (a0:ab) (a1:cR):Option (Bool×ab):=
 YL (ct a1.cm 0 (WR (a0.cq.dP-1))) λr1=>YL (bif !r1 then(some true) else(YL (kc a0.cq a1.cm) λr3=>some (booB r3 false))) λ(v2:Bool)=>bif v2 then(some (false,a0)) else(YL (mx a0.cq a1.cm false) λr4=>bif eqB r4.dm 0 then(some (false,a0)) else(YL (iter (mB a0 r4) FU (0,a0.aj)) λ(v13:List ah)=>some (true,{a0 with aj:=v13,cq:=r4})))
theorem vk {a0:ab} {a1:cR} {r:Bool×ab} (H:iE a0 a1=some r):FnV prog 116 (nI a0) [tP 200,.v (.agg (kM [.t,.t] (eF {a1 with aV:=11})))] (nI r.2) (.v (.c (.d false (.b r.1)))) []:=by
 refine fV func116 ntmps116 ?_
 refine dI ?_
 refine aa H λr1 q1 H=>dA (ca (hF:=bZ q1)) ?_
 refine aa H λv2 Hj H=>et ⟨[(0,tP 200),(3,tP 210),(5,tB false),(32,tB v2)],(nI a0++[(210,.var 50 (kM [.t,.t] (eF {a1 with aV:=11})))]),211⟩ ?_ ?_
 .have H:=Hj
  refine wI ?_
  refine dC H ?_ ?_<;>intro H
  .refine wI ?_
   exact ai H
  refine aa H λr3 q3 H=>dG (ca (hF:=sY q3)) ?_
  refine wI ?_
  exact ai H
 refine wI ?_
 refine cC H ?_ ?_<;>intro H
 .refine wI ?_
  cases H
  exact bO
 refine wI ?_
 refine aa H λr4 q4 H=>nA (ca (hF:=Ds q4)) ?_
 refine cC H ?_ ?_<;>intro H
 .cases H
  exact bO
 refine aa H λv13 Hj H=>jB ⟨[],(nI {a0 with aj:=v13,cq:=r4}),210⟩ ?_ ?_
 .refine iT Hj (λq=>⟨[(0,tP 200),(6,tP 211),(7,tP 212),(53,tI (a0.aj.length:Int)),(54,tI q.1)],(nI {a0 with aj:=q.2,cq:=r4}++[(211,.var 32 (kM [] (cM a0.cq))),(212,.var 32 (kM [] (cM r4)))]),213⟩) ?_
  rintro⟨v5,v6⟩ o H
  try dsimp only
  refine wI ?_
  refine cC H ?_ ?_<;>intro H
  .refine dI ?_
   refine aa H λr14 q14 H=>dA (ca (hF:=o7 q14)) ?_
   refine aa H λr15 q15 H=>dA (ca (hF:=o7 q15)) ?_
   refine wI ?_
   refine aa H λv16 Hj H=>jA ⟨[(0,tP 200),(6,tP 211),(7,tP 212),(53,tI (a0.aj.length:Int)),(54,tI v5)],(nI {a0 with aj:=v16,cq:=r4}++[(211,.var 32 (kM [] (cM a0.cq))),(212,.var 32 (kM [] (cM r4)))]),213⟩ ?_ ?_
   .refine cC Hj ?_ ?_<;>intro H
    .refine zI (List.range 15) ?_
     refine aa H λx17 hx17 H=>zA (xwT hx17) ?_
     refine zA (oea (he:=gm _ hx17)) ?_
     refine aa H λr18 q18 H=>zA (ca (hF:=Bz q18)) ?_
     refine aa H λx19 hx19 H=>zA (xwT hx19) ?_
     refine zB (ay (aU (o:=213)) (ay (aU (o:=214)) (ay (aU (o:=215)) (cj (k:=76))))) (hP rfl (soT (enc:=bB) (a':=r18) hx19)) bW ?_
     cases H
     refine ay (wB 191 ((v6.set (v5).toNat r18).length)) ?_
     exact wo
    exact ai H
   cases H
   refine dy ?_
   exact wo
  cases H
  refine dF (λhq=>?_)
  cases hq
  refine wI ?_
  exact wo
 cases H
 exact bO
def nN (a0:ab) (a1:cR):Option (Bool×ab):=
 YL (iE a0 {a1 with aV:=11}) λr1=>some (r1.1,r1.2)
theorem yB {a0:ab} {a1:cR} {r:Bool×ab} (H:nN a0 a1=some r):FnV prog 49 (nI a0) [tP 200,.v (.agg (kM [.t,.t] (eF {a1 with aV:=11})))] (nI r.2) (.v (.c (.d false (.b r.1)))) []:=by
 refine fV func49 ntmps49 ?_
 refine aa H λr1 q1 H=>sA (cwu m0 [] 211 (vk q1)) ?_
 cases H
 exact bO
def ky (a0:ab) (a1:cR):Option (ab×Bool):=
 YL (mC a0) λr1=>YL (jm a0) λr2=>YL (bif !r2 then(some (true,r1)) else(YL (nN r1 {a1 with aV:=11}) λr15=>some (!r15.1,r15.2))) λ((v3,v14):Bool×ab)=>bif v3 then(YL (mC a0) λr16=>some (r16,false)) else(some (v14,true))
theorem yz {a0:ab} {a1:cR} {r:ab×Bool} (H:ky a0 a1=some r):FnV prog 13 [] [.v (.agg (kM [.t,.t,.t,.t,.t] (aJ a0))),.v (.agg (kM [.t,.t] (eF {a1 with aV:=11})))] [] (.tup [.agg (kM [.t,.w 210,.w 211,.w 212,.w 213] (aJ r.1)),.c (.d false (.b r.2))]) [(210,w86 r.1.an),(211,w69 r.1.aj),(212,w89 r.1.bi),(213,w48 r.1.aN)]:=by
 refine fV func13 ntmps13 ?_
 refine aa H λr1 q1 H=>nA (ca (hF:=vM q1)) ?_
 refine aa H λr2 q2 H=>nA (ca (hF:=rA q2)) ?_
 obtain⟨⟨v3,v14⟩,Hj,H⟩:=ob H
 refine jR ⟨[(2,tP 210),(4,tP 212),(6,tP 218),(16,tB v3)],(oM [.t,.w 214,.w 215,.w 216,.w 217] 218 34 (aJ v14)++[(210,.var 34 (kM [.t,.t,.t,.t,.t] (aJ a0))),(212,.var 34 (kM [.z,.z,.z,.z,.z] (aJ {dL with d8:=(⟨[]⟩:aM)})))]),219⟩ ?_ ?_
 .refine gC Hj ?_ ?_<;>intro H
  .cases H
   refine ay (aU (o:=213)) ?_
   refine ay (cj (k:=8)) ?_
   refine ay (dq (o:=218)) ?_
   exact wo
  refine aa H λr15 q15 H=>bH (aU (o:=213)) ?_
  refine bH (cj (k:=8)) ?_
  refine bH (dq (o:=218)) ?_
  refine sG (cwu [(190,214),(191,215),(192,216),(193,217),(200,218)] [] 219 (yB q15)) ?_
  exact ai H
 refine cC H ?_ ?_<;>intro H
 .refine aa H λr16 q16 H=>nA (ca (hF:=vM q16)) ?_
  cases H
  refine bV ((aU (o:=219))) ?_
  refine bV ((cj (k:=18))) ?_
  refine bV ((dq (o:=212))) ?_
  refine bV (wS 220 210) ?_
  refine bV (wS 221 211) ?_
  refine bV (wS 222 212) ?_
  refine bV (wS 223 213) ?_
  exact bO
 cases H
 refine bV (wS 214 210) ?_
 refine bV (wS 215 211) ?_
 refine bV (wS 216 212) ?_
 refine bV (wS 217 213) ?_
 exact bO
def uk (a0:ab) (a1:Int):Option Int:=
 YL (gB a0.cq a1) λr1=>some r1
theorem zF {a0:ab} {a1:Int} {r:Int} (H:uk a0 a1=some r):Fn prog 21 [.agg (eD a0),aI a1] [.c (.d (.i .i64 r))]:=by
 refine fI func21 ntmps21 ?_
 refine aa H λr1 q1 H=>nA (ca (hF:=o7 q1)) ?_
 exact ao H
end Go.AM
