/- A part. -/
import Derived.Test.YtbfpkbncbebapaaGreatS3
import Derived.Test.YtbfpkbncbebapaaGreatS4
set_option linter.unusedVariables false
open Option renaming bind->aaC
namespace Go.AM
open Go.Proofs
open Tryz
attribute [local irreducible] AWN NS AWO AWR AWC DR dO ip
set_option maxRecDepth 100000
set_option maxHeartbeats 40000000
def Aj (a0:aw):Option bg:=
 bif !eqB a0.aG 0 then(aaC (Ax a0) λr1=>some r1) else(aaC (xf a0) λr2=>aaC (y4 a0) λr3=>aaC (EN {r2 with aG:=1} r3) λr4=>some r4)
theorem MI {a0:aw} {r:bg} (H:Aj a0=some r):Fn prog 142 [.agg (dq a0)] [.agg (qM [.d,.d,.o] (cM r))]:=by
 refine fI func142 ntmps142 ?_
 refine cC H ?_ ?_<;>intro H
 .refine aa H λr1 q1 H=>nA (ca (hF:=MV q1)) ?_
  cases H
  refine tQ (bw (o:=2)) ?_
  refine tQ (bw (o:=3)) ?_
  refine tQ (cS (o:=1)) ?_
  exact ku
 refine aa H λr2 q2 H=>nA (ca (hF:=EM q2)) ?_
 refine zI (List.range 5) ?_
 refine aa H λr3 q3 H=>zA (ca (hF:=IB q3)) ?_
 refine aa H λr4 q4 H=>zB (aH (bw (o:=2)) (aH (bw (o:=3)) (bJ (k:=12)))) (jp rfl (cwu [] [(210,5)] 6 (FnV.up (MW q4) rfl rfl))) b7 ?_
 refine wA (spx 100080) ?_
 exact ao H
def ES (v20:Int):(Int×List ae×bV)->Option (cK (Int×List ae×bV) (List ae×bV))
 |(v118,v122,v123)=>bif ltB 0 v118 then(aaC (ix v122 v20) λx134=>aaC (gG v123 4) λr135=>aaC (As r135.2 r135.1) λr136=>aaC (o5 x134 r136.1) λr137=>aaC (ix v122 v20) λx138=>some (.next (WR (v118-1),(v122.set (v20).toNat r137.1),r136.2))) else(some (.done (v122,v123)))
def rS (v20:Int) (r152:bg):(Int×ab)->Option (cK (Int×ab) (ab))
 |(v154,v165)=>bif ltB v154 (r152.bL.length:Int) then(aaC (ix r152.bL v154) λx180=>aaC (ix r152.bL v154) λx181=>aaC (rT v165 (⟨v20,true,false,x180.aE,x181,gx⟩:a9)) λr182=>some (.next (WR (v154+1),r182))) else(some (.done v165))
def ER:(Int×bV×ab)->Option (cK (Int×bV×ab) (bV×ab))
 |(v20,v34,v35)=>bif ltB v20 (v35.ah.length:Int) then(aaC (gG v34 7) λr117=>aaC (iter (ES v20) FU (r117.1,v35.aj,r117.2)) λ((v132,v133):List ae×bV)=>aaC (qD v133 5) λr139=>aaC (bif !r139.1 then(aaC (ix v35.ah v20) λx151=>aaC (Aj x151) λr152=>aaC (ix v35.ah v20) λx153=>aaC (iter (rS v20 r152) FU (0,{v35 with ah:=(v35.ah.set (v20).toNat r152.aJ),aj:=v132})) λ(v179:ab)=>some v179) else(some {v35 with aj:=v132})) λ(v150:ab)=>some (.next (WR (v20+1),r139.2,v150))) else(some (.done (v34,v35)))
def CT (a0:bV):Option (ab×bV):=
 aaC (Au a0) λr1=>aaC (aaC (Ap r1.2) λr16=>aaC (mx r16.2) λr17=>aaC (gG r17.2 60) λr18=>aaC (sU r16.1 r17.1 r1.1 (WR (30+r18.1))) λr19=>some (r19.bp,r19.gZ,r19.Lost,r19.aB,r19.aj,r19.ah,r19.bX.aZ,r18.2,r19.eD)) λ((v5,v8,v9,v10,v11,v12,v13,v14,v15):Int×Int×Int×List av×List ae×List aw×List eY×bV×cd)=>aaC (iter (ER) FU (0,v14,(⟨(⟨v13⟩:aU),v12,v11,v10,([]:List a9),v5,v15,v8,v9⟩:ab))) λ((v115,v116):bV×ab)=>some (v116,v115)
theorem QF {a0:bV} {r:ab×bV} (H:CT a0=some r):FnV prog 70 [(200,.var 148 (kM [.f] (eh a0)))] [tP 200] [(200,.var 148 (kM [.f] (eh r.2)))] (.v (.agg (kM [.t,.n 210,.n 211,.n 212,.n 213] (bD r.1)))) [(210,n86 r.1.ah),(211,n69 r.1.aj),(212,n89 r.1.aB),(213,n48 r.1.aA)]:=by
 refine fV func70 ntmps70 ?_
 refine aa H λr1 q1 H=>sA (cwv [(200,200)] [(210,211)] 212 (MQ q1)) ?_
 refine wI ?_
 obtain⟨⟨v5,v8,v9,v10,v11,v12,v13,v14,v15⟩,Hj,H⟩:=ob H
 refine Hq ⟨[(0,tP 200),(2,tP 210),(4,tP 214)],(oM [.n 215,.n 216,.n 217,.n 218,.z] 214 34 (bD (⟨(⟨v13⟩:aU),v12,v11,v10,[],v5,v15,v8,v9⟩:ab))++[(200,.var 148 (kM [.f] (eh v14))),(210,.var 34 (kM [.z,.z,.z,.z,.z] (bD {eX with bX:=(⟨[]⟩:aU)})))]),219⟩ Try.follows ?_ ?_
 .have H:=Hj
  refine AL 8 9 rfl ?_ ?_
  .refine AK [0,1,2,3,4,5,6,7,9,8,10] (by kernel_rfl) (by kernel_rfl) rfl ?_
   refine wI ?_
   refine aa H λr16 q16 H=>wA (cwx (o:=200) (FnV.frzW (EK q16) rfl rfl ⟨by first|rfl|simp,trivial⟩ rfl)) ?_
   refine aa H λr17 q17 H=>wA (cwx (o:=200) (sZ q17)) ?_
   refine aa H λr18 q18 H=>wA (cwx (o:=200) (fU q18)) ?_
   refine aa H λr19 q19 H=>zB (aH (bw (o:=213)) (aH (bJ (k:=16)) (xI 211))) (jp rfl (cwv [] [(210,215),(211,216),(212,217),(213,218)] 219 (yp q19))) b7 ?_
   refine wA (spx 100218) ?_
   exact ai H
  refine AK [0,1,2,3,4,5,6,7,8,9,10] (by kernel_rfl) (by kernel_rfl) rfl ?_
  refine wI ?_
  refine aa H λr16 q16 H=>wA (cwx (o:=200) (FnV.frzW (EK q16) rfl rfl ⟨by first|rfl|simp,trivial⟩ rfl)) ?_
  refine aa H λr17 q17 H=>wA (cwx (o:=200) (sZ q17)) ?_
  refine aa H λr18 q18 H=>wA (cwx (o:=200) (fU q18)) ?_
  refine aa H λr19 q19 H=>zB (aH (bw (o:=213)) (aH (bJ (k:=16)) (xI 211))) (jp rfl (cwv [] [(210,214),(211,215),(212,216),(213,217)] 218 (yp q19))) b7 ?_
  refine wA (spx 100219) ?_
  cases H
  refine aH (wS 214 218) ?_
  refine aH (wS 215 218) ?_
  refine aH (wS 216 218) ?_
  refine aH (wS 217 218) ?_
  exact wo
 refine wI ?_
 obtain⟨⟨v115,v116⟩,Hj,H⟩:=ob H
 refine jB ⟨[(2,tP 210),(4,tP 214)],(oM [.t,.n 216,.n 217,.n 218,.n 219] 214 34 (bD v116)++[(200,.var 148 (kM [.f] (eh v115))),(210,.var 34 (kM [.z,.z,.z,.z,.z] (bD {eX with bX:=(⟨[]⟩:aU)})))]),220⟩ ?_ ?_
 .refine iT Hj (λq=>⟨[(0,tP 200),(2,tP 210),(4,tP 214),(5,tI q.1)],(oM [.t,.n 216,.n 217,.n 218,.n 219] 214 34 (bD q.2.2)++[(200,.var 148 (kM [.f] (eh q.2.1))),(210,.var 34 (kM [.z,.z,.z,.z,.z] (bD {eX with bX:=(⟨[]⟩:aU)})))]),220⟩) ?_ (by refine aH (xI 215) ?_;refine aH (gU (o:=214) (j:=4) 48 21 true) ?_;refine aH (wB 219 (([]:List a9).length)) ?_;exact wo)
  rintro⟨v20,v34,v35⟩ o H
  try dsimp only
  refine wI ?_
  refine cC H ?_ ?_<;>intro H
  .refine aa H λr117 q117 H=>sA (cw (o:=200) (fU q117)) ?_
   obtain⟨⟨v132,v133⟩,Hj,H⟩:=ob H
   refine jB ⟨[(0,tP 200),(2,tP 210),(4,tP 214),(5,tI v20)],(oM [.t,.n 216,.n 217,.n 218,.n 219] 214 34 (bD {v35 with aj:=v132})++[(200,.var 148 (kM [.f] (eh v133))),(210,.var 34 (kM [.z,.z,.z,.z,.z] (bD {eX with bX:=(⟨[]⟩:aU)})))]),220⟩ ?_ ?_
   .refine iT Hj (λq=>⟨[(0,tP 200),(2,tP 210),(4,tP 214),(5,tI v20),(6,tI q.1)],(oM [.t,.n 216,.n 217,.n 218,.n 219] 214 34 (bD {v35 with aj:=q.2.1})++[(200,.var 148 (kM [.f] (eh q.2.2))),(210,.var 34 (kM [.z,.z,.z,.z,.z] (bD {eX with bX:=(⟨[]⟩:aU)})))]),220⟩) ?_
    rintro⟨v118,v122,v123⟩ o H
    try dsimp only
    refine wI ?_
    refine cC H ?_ ?_<;>intro H
    .refine zI (List.range 16) ?_
     refine aa H λx134 hx134 H=>zA (CB hx134) ?_
     refine zA (oean (he:=eU _ hx134)) ?_
     refine aa H λr135 q135 H=>wA (cwx (o:=200) (fU q135)) ?_
     refine aa H λr136 q136 H=>wA (cwx (o:=200) (MO q136)) ?_
     refine aa H λr137 q137 H=>zA (ca (hF:=Cz q137)) ?_
     refine wA (spx 100243) ?_
     refine aa H λx138 hx138 H=>bN (Lu 217 (hne:=WP (enc:=cG) hx138)) ?_
     refine nA (xwT hx138) ?_
     refine bN (bw (o:=221)) ?_
     refine bN (bw (o:=222)) ?_
     refine bN (bw (o:=223)) ?_
     refine bN (bJ (k:=51)) ?_
     refine sA (soT (enc:=cG) (a':=r137.1) hx138) ?_
     cases H
     refine eA ?_
     refine aH (lk 217) ?_
     refine aH (wB 217 ((v122.set (v20).toNat r137.1).length)) ?_
     exact wo
    cases H
    refine et (λhq=>?_)
    cases hq
    refine wI ?_
    exact wo
   refine aa H λr139 q139 H=>sA (cw (o:=200) (uw q139)) ?_
   refine aa H λv150 Hj H=>jA ⟨[(0,tP 200),(2,tP 210),(4,tP 214),(5,tI v20)],(oM [.t,.n 216,.n 217,.n 218,.n 219] 214 34 (bD v150)++[(200,.var 148 (kM [.f] (eh r139.2))),(210,.var 34 (kM [.z,.z,.z,.z,.z] (bD {eX with bX:=(⟨[]⟩:aU)})))]),220⟩ ?_ ?_
   .refine cC Hj ?_ ?_<;>intro H
    .refine aa H λx151 hx151 H=>bN (Lu 216 (hne:=WP (enc:=dq) hx151)) ?_
     refine nA (xwT hx151) ?_
     refine nA (oea (he:=eU _ hx151)) ?_
     refine aa H λr152 q152 H=>nA (ca (hF:=MI q152)) ?_
     refine aa H λx153 hx153 H=>nA (xwT hx153) ?_
     refine sA (soT (enc:=dq) (a':=r152.aJ) hx153) ?_
     refine aa H λv179 Hj H=>jB ⟨[(0,tP 200),(2,tP 210),(4,tP 214),(5,tI v20)],(oM [.t,.n 216,.n 217,.n 218,.n 219] 214 34 (bD v179)++[(200,.var 148 (kM [.f] (eh r139.2))),(210,.var 34 (kM [.z,.z,.z,.z,.z] (bD {eX with bX:=(⟨[]⟩:aU)})))]),220⟩ ?_ ?_
     .refine iT Hj (λq=>⟨[(0,tP 200),(2,tP 210),(4,tP 214),(5,tI v20),(9,tP 221),(10,tI q.1)],(oM [.t,.n 216,.n 217,.n 218,.n 219] 214 34 (bD q.2)++(oM [.t,.t,.w 220] 221 181 (cM r152)++[(200,.var 148 (kM [.f] (eh r139.2))),(210,.var 34 (kM [.z,.z,.z,.z,.z] (bD {eX with bX:=(⟨[]⟩:aU)})))])),222⟩) ?_ (by refine aH (lk 216) ?_;refine aH (wB 216 ((v35.ah.set (v20).toNat r152.aJ).length)) ?_;exact wo)
      rintro⟨v154,v165⟩ o H
      try dsimp only
      refine wI ?_
      refine cC H ?_ ?_<;>intro H
      .refine zI (List.range 14) ?_
       refine aa H λx180 hx180 H=>zA (xwT hx180) ?_
       refine zA (oe (he:=eU _ hx180)) ?_
       refine aa H λx181 hx181 H=>zA (xwT hx181) ?_
       refine zA (oea (he:=eU _ hx181)) ?_
       refine aa H λr182 q182 H=>zB b7 (jp rfl (cwu [(190,216),(191,217),(192,218),(193,219),(200,214)] [] 222 (MY q182))) b7 ?_
       cases H
       refine eA ?_
       exact wo
      cases H
      refine et (λhq=>?_)
      cases hq
      refine wI ?_
      exact wo
     exact ai H
    exact ai H
   cases H
   refine eA ?_
   exact wo
  cases H
  refine et (λhq=>?_)
  cases hq
  refine wI ?_
  exact wo
 cases H
 refine bO (wS 216 210) ?_
 refine bO (wS 217 211) ?_
 refine bO (wS 218 212) ?_
 refine bO (wS 219 213) ?_
 exact cV
end Go.AM
