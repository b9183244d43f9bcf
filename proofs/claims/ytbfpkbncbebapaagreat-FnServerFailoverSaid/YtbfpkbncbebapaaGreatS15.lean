/- A part. -/
import Derived.Test.YtbfpkbncbebapaaGreatS14
set_option linter.unusedVariables false
open Option renaming bind->YL
namespace Go.AM
open Go.Proofs
open Tryz
attribute [local irreducible] AWN NS AWO AWR AWC DR dQ gQ
set_option maxRecDepth 100000
set_option maxHeartbeats 40000000
def uN (a0:ab) (a1:cR):Option (Bool×ab):=
 YL (cO a1.cm 0 (WR ((a0.aN.length:Int)-1))) λr1=>bif !r1 then(some (false,a0)) else(bif eqB a1.aV 2 then(YL (sK a0 a1.cm) λr2=>some (true,r2)) else(bif eqB a1.aV 3 then(YL (wV a0 a1.cm) λr3=>some (true,{r3.2 with kT:=WR (r3.2.kT+1)})) else(bif leB 200 (a0.aN.length:Int) then(some (false,a0)) else(YL (ix a0.aN a1.cm) λx4=>YL (fC a0 x4) λr5=>some (true,r5)))))
theorem Id {a0:ab} {a1:cR} {r:Bool×ab} (H:uN a0 a1=some r):FnV prog 237 (nS a0) [tP 200,.v (.agg (kM [.t,.t] (eF a1)))] (nS r.2) (.v (.c (.d false (.b r.1)))) []:=by
 refine fV func237 ntmps237 ?_
 refine dI ?_
 refine aa H λr1 q1 H=>dA (ca (hF:=bT q1)) ?_
 refine wI ?_
 refine cC H ?_ ?_<;>intro H
 .cases H
  exact bO
 refine cC H ?_ ?_<;>intro H
 .refine aa H λr2 q2 H=>sA (cwu m0 [] 211 (Fy q2)) ?_
  cases H
  exact bO
 refine cC H ?_ ?_<;>intro H
 .refine aa H λr3 q3 H=>sA (cwu m0 [] 211 (EG q3)) ?_
  cases H
  exact bO
 refine cC H ?_ ?_<;>intro H
 .cases H
  exact bO
 refine zI (List.range 10) ?_
 refine aa H λx4 hx4 H=>zA (oY hx4) ?_
 refine zA (HG (he:=gm _ hx4)) ?_
 refine aa H λr5 q5 H=>zB bW (hP rfl (cwu m0 [] 211 (qX q5))) bW ?_
 cases H
 exact bO
def xy (a0:ab) (a1:cR):Option (Bool×ab):=
 bif eqB a1.aV 1 then(YL (AC a0) λr1=>some (r1.1,r1.2)) else(YL (bif eqB a1.aV 2 then(some (eqB a1.aV 2)) else(YL (bif eqB a1.aV 3 then(some (eqB a1.aV 3)) else(some (eqB a1.aV 4))) λ(v3:Bool)=>some v3)) λ(v2:Bool)=>bif v2 then(YL (uN a0 a1) λr4=>some (r4.1,r4.2)) else(YL (bif eqB a1.aV 5 then(some (eqB a1.aV 5)) else(YL (bif eqB a1.aV 6 then(some (eqB a1.aV 6)) else(YL (bif eqB a1.aV 7 then(some (eqB a1.aV 7)) else(some (eqB a1.aV 8))) λ(v7:Bool)=>some v7)) λ(v6:Bool)=>some v6)) λ(v5:Bool)=>bif v5 then(YL (CF a0 a1) λr8=>some (r8.1,r8.2)) else(YL (bif eqB a1.aV 9 then(some (eqB a1.aV 9)) else(some (eqB a1.aV 10))) λ(v9:Bool)=>bif v9 then(YL (Az a0 a1.cm (eqB a1.aV 10)) λr10=>some (r10.1,r10.2)) else(YL (bif eqB a1.aV 11 then(some (eqB a1.aV 11)) else(some (eqB a1.aV 12))) λ(v11:Bool)=>bif v11 then(YL (uO a0 a1.cm (eqB a1.aV 12)) λr12=>some (r12.1,r12.2)) else(bif eqB a1.aV 13 then(YL (ji a0 a1.bG) λr13=>bif !r13 then(some (false,a0)) else(YL (fC a0 a1.bG) λr14=>some (true,r14))) else(some (false,a0)))))))
theorem Km {a0:ab} {a1:cR} {r:Bool×ab} (H:xy a0 a1=some r):FnV prog 161 (nS a0) [tP 200,.v (.agg (kM [.t,.t] (eF a1)))] (nS r.2) (.v (.c (.d false (.b r.1)))) []:=by
 refine fV func161 ntmps161 ?_
 refine cC H ?_ ?_<;>intro H
 .refine aa H λr1 q1 H=>sA (cwu m0 [] 211 (L1 q1)) ?_
  cases H
  exact bO
 refine aa H λv2 Hj H=>jA ⟨[(0,tP 200),(3,tP 210),(6,tI a1.aV),(11,tB v2)],(nS a0++[(210,.var 50 (kM [.t,.t] (eF a1)))]),211⟩ ?_ ?_
 .refine cC Hj ?_ ?_<;>intro H
  .exact ai H
  refine aa H λv3 Hj H=>jA ⟨[(0,tP 200),(3,tP 210),(6,tI a1.aV),(11,tB v3)],(nS a0++[(210,.var 50 (kM [.t,.t] (eF a1)))]),211⟩ ?_ ?_
  .refine cC Hj ?_ ?_<;>intro H
   .exact ai H
   exact ai H
  exact ai H
 refine cC H ?_ ?_<;>intro H
 .refine aa H λr4 q4 H=>sA (cwu m0 [] 211 (Id q4)) ?_
  cases H
  exact bO
 refine aa H λv5 Hj H=>jA ⟨[(0,tP 200),(3,tP 210),(6,tI a1.aV),(18,tB v5)],(nS a0++[(210,.var 50 (kM [.t,.t] (eF a1)))]),211⟩ ?_ ?_
 .refine cC Hj ?_ ?_<;>intro H
  .exact ai H
  refine aa H λv6 Hj H=>jA ⟨[(0,tP 200),(3,tP 210),(6,tI a1.aV),(18,tB v6)],(nS a0++[(210,.var 50 (kM [.t,.t] (eF a1)))]),211⟩ ?_ ?_
  .refine cC Hj ?_ ?_<;>intro H
   .exact ai H
   refine aa H λv7 Hj H=>jA ⟨[(0,tP 200),(3,tP 210),(6,tI a1.aV),(18,tB v7)],(nS a0++[(210,.var 50 (kM [.t,.t] (eF a1)))]),211⟩ ?_ ?_
   .refine cC Hj ?_ ?_<;>intro H
    .exact ai H
    exact ai H
   exact ai H
  exact ai H
 refine cC H ?_ ?_<;>intro H
 .refine aa H λr8 q8 H=>sA (cwu m0 [] 211 (Pf q8)) ?_
  cases H
  exact bO
 refine aa H λv9 Hj H=>jA ⟨[(0,tP 200),(3,tP 210),(6,tI a1.aV),(26,tB v9)],(nS a0++[(210,.var 50 (kM [.t,.t] (eF a1)))]),211⟩ ?_ ?_
 .refine cC Hj ?_ ?_<;>intro H
  .exact ai H
  exact ai H
 refine cC H ?_ ?_<;>intro H
 .refine aa H λr10 q10 H=>sA (cwu m0 [] 211 (LZ q10)) ?_
  cases H
  exact bO
 refine aa H λv11 Hj H=>jA ⟨[(0,tP 200),(3,tP 210),(6,tI a1.aV),(36,tB v11)],(nS a0++[(210,.var 50 (kM [.t,.t] (eF a1)))]),211⟩ ?_ ?_
 .refine cC Hj ?_ ?_<;>intro H
  .exact ai H
  exact ai H
 refine cC H ?_ ?_<;>intro H
 .refine aa H λr12 q12 H=>sA (cwu m0 [] 211 (Ie q12)) ?_
  cases H
  exact bO
 refine cC H ?_ ?_<;>intro H
 .refine dI ?_
  refine aa H λr13 q13 H=>dA (ca (hF:=wU q13)) ?_
  refine wI ?_
  refine cC H ?_ ?_<;>intro H
  .cases H
   exact bO
  refine aa H λr14 q14 H=>sA (cwu m0 [] 211 (qX q14)) ?_
  cases H
  exact bO
 cases H
 exact bO
def EF:(Int×List cR×aT×ab)->Option (cf (Int×List cR×aT×ab) (List cR×aT×ab))
 |(v4,v8,v19,v20)=>bif ltB 0 v4 then(YL (AA v19 v20) λr51=>bif dh 224 (v8++[r51.1]).length then(YL (wR v20) λr52=>YL (xy r52 r51.1) λr53=>YL (bif r53.1 then(some r53.2) else(some v20)) λ(v64:ab)=>some (.next (WR (v4-1),(v8++[r51.1]),r51.2,v64))) else none) else(some (.done (v8,v19,v20)))
def AB (a0:aT) (a1:Int):Option (ab×List cR×ab×aT):=
 YL (Ay a0) λr1=>YL (wR r1.1) λr2=>YL (co r1.2 a1) λr3=>YL (iter (EF) FU (WR (3+r3.1),([]:List cR),r3.2,r2)) λ((v38,v49,v50):List cR×aT×ab)=>some (r1.1,v38,v50,v49)
theorem Pg {a0:aT} {a1:Int} {r:ab×List cR×ab×aT} (H:AB a0 a1=some r):FnW prog 94 (.var 148 (kM [.f] (bS a0))) [tP 200,tI a1] (.var 148 (kM [.f] (bS r.2.2.2))) [.agg (qM [.d,.d,.d,.d,.d] (aJ r.1)),.c (.own 50 25 (r.2.1.map Cv) r.2.1.length),.agg (qM [.d,.d,.d,.d,.d] (aJ r.2.2.1))]:=by
 refine fW func94 ntmps94 ?_
 refine aa H λr1 q1 H=>sA (cwv [(200,200)] [(210,212),(211,213),(212,214),(213,215)] 216 (Pe q1)) ?_
 refine aa H λr2 q2 H=>bH (eZ 212) ?_
 refine bH (eZ 213) ?_
 refine bH (eZ 214) ?_
 refine bH (eZ 215) ?_
 refine sA (cwv [] [(210,217),(211,218),(212,219),(213,220)] 221 (EC q2)) ?_
 refine aa H λr3 q3 H=>sA (cw (o:=200) (bU q3)) ?_
 obtain⟨⟨v38,v49,v50⟩,Hj,H⟩:=ob H
 refine jB ⟨[(4,tP 210),(6,tP 211),(7,tP 216),(8,tP 221),(9,.v (.c (.w 222 v38.length)))],[(200,.var 148 (kM [.f] (bS v49))),(210,.var 34 (kM [.z,.z,.z,.z,.z] (aJ {dL with d8:=(⟨[]⟩:aM)}))),(211,.var 34 (kM [.z,.z,.z,.z,.z] (aJ {dL with d8:=(⟨[]⟩:aM)}))),(216,.var 34 (kM [.t,.t,.t,.t,.t] (aJ r1.1))),(221,.var 34 (kM [.t,.t,.t,.t,.t] (aJ v50))),(222,w50 v38)],223⟩ ?_ ?_
 .refine iT Hj (λq=>⟨[(0,tP 200),(4,tP 210),(6,tP 211),(7,tP 216),(8,tP 221),(9,.v (.c (.w 222 q.2.1.length))),(10,tI q.1)],[(200,.var 148 (kM [.f] (bS q.2.2.1))),(210,.var 34 (kM [.z,.z,.z,.z,.z] (aJ {dL with d8:=(⟨[]⟩:aM)}))),(211,.var 34 (kM [.z,.z,.z,.z,.z] (aJ {dL with d8:=(⟨[]⟩:aM)}))),(216,.var 34 (kM [.t,.t,.t,.t,.t] (aJ r1.1))),(221,.var 34 (kM [.t,.t,.t,.t,.t] (aJ q.2.2.2))),(222,w50 q.2.1)],223⟩) ?_ (by refine ay (eZ 217) ?_;refine ay (eZ 218) ?_;refine ay (eZ 219) ?_;refine ay (eZ 220) ?_;exact wo)
  rintro⟨v4,v8,v19,v20⟩ o H
  try dsimp only
  refine wI ?_
  refine cC H ?_ ?_<;>intro H
  .refine aa H λr51 q51 H=>sA (cwv [(200,200)] [(210,223)] 224 (L0 q51)) ?_
   refine aW (eZ 223) ?_
   obtain⟨h,H⟩:=rq H
   refine sA (apT (enc:=Cv) (ys:=v8) (zs:=[r51.1]) h) ?_
   refine aa H λr52 q52 H=>sA (cwv [] [(210,226),(211,227),(212,228),(213,229)] 230 (EC q52)) ?_
   refine aa H λr53 q53 H=>sA (cwu [(190,226),(191,227),(192,228),(193,229),(200,230)] [] 231 (Km q53)) ?_
   refine aa H λv64 Hj H=>jA ⟨[(0,tP 200),(4,tP 210),(6,tP 211),(7,tP 216),(8,tP 221),(9,.v (.c (.w 222 ((v8++[r51.1]).length)))),(10,tI v4)],[(200,.var 148 (kM [.f] (bS r51.2))),(210,.var 34 (kM [.z,.z,.z,.z,.z] (aJ {dL with d8:=(⟨[]⟩:aM)}))),(211,.var 34 (kM [.z,.z,.z,.z,.z] (aJ {dL with d8:=(⟨[]⟩:aM)}))),(216,.var 34 (kM [.t,.t,.t,.t,.t] (aJ r1.1))),(221,.var 34 (kM [.t,.t,.t,.t,.t] (aJ v64))),(222,w50 (v8++[r51.1]))],223⟩ ?_ ?_
   .refine cC Hj ?_ ?_<;>intro H
    .cases H
     refine ay (eZ 226) ?_
     refine ay (eZ 227) ?_
     refine ay (eZ 228) ?_
     refine ay (eZ 229) ?_
     exact wo
    exact ai H
   cases H
   refine dy ?_
   exact wo
  cases H
  refine dF (λhq=>?_)
  cases hq
  refine wI ?_
  exact wo
 refine zI (List.range 6) ?_
 refine wA (spx 100488) ?_
 refine wA (spx 100487) ?_
 cases H
 exact fo
def wT (a0:aT) (a1:Int):Option (ab×aT):=
 YL (AB a0 a1) λr1=>some (r1.2.2.1,r1.2.2.2)
theorem Fz {a0:aT} {a1:Int} {r:ab×aT} (H:wT a0 a1=some r):FnW prog 46 (.var 148 (kM [.f] (bS a0))) [tP 200,tI a1] (.var 148 (kM [.f] (bS r.2))) [.agg (qM [.d,.d,.d,.d,.d] (aJ r.1))]:=by
 refine fW func46 ntmps46 ?_
 refine aa H λr1 q1 H=>sA (cw (o:=200) (Pg q1)) ?_
 cases H
 exact fo
def pV (a0:List Int):Option ab:=
 YL (H9 a0) λr1=>YL (As a0 50) λr2=>YL (wT r1 (WR (40+r2))) λr3=>some r3.1
theorem D6 {a0:List Int} {r:ab} (H:pV a0=some r):Fn prog 11 [aL (a0.map eU8)] [.agg (qM [.d,.d,.d,.d,.d] (aJ r))]:=by
 refine fI func11 ntmps11 ?_
 refine aa H λr1 q1 H=>nA (cn (Sg q1) rfl rfl trivial rfl rfl rfl) ?_
 refine aa H λr2 q2 H=>nA (ca (hF:=Pc q2)) ?_
 refine aa H λr3 q3 H=>sA (cw (o:=1) (Fz q3)) ?_
 exact ao H
end Go.AM
