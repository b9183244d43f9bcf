/- A part. -/
import Derived.Test.YtgbcdgihmgapeaaGreatS5
import Derived.Test.YtgbcdgihmgapeaaGreatS6
import Derived.Test.YtgbcdgihmgapeaaGreatS7
import Derived.Test.YtgbcdgihmgapeaaGreatS8
import Derived.Test.YtgbcdgihmgapeaaGreatS9
set_option linter.unusedVariables false
open Option renaming some->ς,none->ξ
open Bool renaming true->ζ,false->η
open True renaming intro->θ
open Option renaming bind->abd
namespace Go.AM
open Go.Proofs
open Tryz
attribute [local irreducible] AWN NS AWO AWR AWC DR DZ cB eZ iter
set_option maxRecDepth 100000
set_option maxHeartbeats 40000000
def kw(a0:ah)(a1:aM):Option bU:=
 abd (cond (leB a0.bG 0) (ς ζ) (cond (!eqB a1.ag a0.bG) (ς ζ) (abd (ny a0.aO a1.bX) λr2=>cond (!r2) (ς ζ) (ς (leB 999999 a0.bi))))) λ(v1:Bool)=>cond v1 (abd (mN a0) λr3=>ς r3) (abd (gZ a0) λr4=>abd (qG (⟨r4.bH,r4.ip,1,df,0,a0.bG,a0.aO.eV,WR (a0.bi+1),a1.bv,0,f8,r4.av,r4.ax,r4.d6,r4.bV⟩:ah) 4) λr5=>ς r5)
instance KI{a0:ah}{a1:aM}{r:bU}:FC prog (kw a0 a1=ς r) 178 [.agg (cO a0),.agg (eB a1)] [.agg (qM [.d,.d,.d,.o] (fQ r))]:=gG func178 ntmps178 (hb 9 28)
def lp(a0:ah)(a1:aM):Option bU:=
 abd (tu a0 a1) λr1=>abd (cond (!r1) (ς ζ) (ς (ltB a0.ax.bC a1.bX))) λ(v2:Bool)=>cond v2 (abd (mN a0) λr3=>ς r3) (abd (gZ a0) λr4=>abd (jI a0.ax a1.bX) λr5=>abd (nC a0.ax.aG) λr6=>abd (nC r5.aG) λr7=>abd (nO a0.bV (WR (r6-r7))) λr8=>ς (⟨{r4 with d9:=0,ax:=r5,bV:=r8.1},([]:List aM)⟩:bU))
instance M1{a0:ah}{a1:aM}{r:bU}:FC prog (lp a0 a1=ς r) 180 [.agg (cO a0),.agg (eB a1)] [.agg (qM [.o,.o,.o,.o] (fQ r))]:=gG func180 ntmps180 (hb 12 19) (hz 5)
def CT(v20:Int):(Int×List ah×aT)->Option (ct (Int×List ah×aT) (List ah×aT))
 |(v118,v122,v123)=>cond (ltB 0 v118) (abd (ix v122 v20) λx134=>abd (cj v123 4) λr135=>abd (vh r135.2 r135.1) λr136=>abd (kY x134 r136.1) λr137=>abd (ix v122 v20) λx138=>ς (.next (WR (v118-1),(v122.set (v20).toNat r137.1),r136.2))) (ς (.done (v122,v123)))
def qJ(v20:Int)(r152:bj):(Int×ab)->Option (ct (Int×ab) (ab))
 |(v154,v165)=>cond (ltB v154 (r152.dF.length:Int)) (abd (ix r152.dF v154) λx180=>abd (ix r152.dF v154) λx181=>abd (gz v165 (⟨v20,ζ,η,x180.bv,x181,fj⟩:bT)) λr182=>ς (.next (WR (v154+1),r182))) (ς (.done v165))
def CS:(Int×aT×ab)->Option (ct (Int×aT×ab) (aT×ab))
 |(v20,v34,v35)=>cond (ltB v20 (v35.aj.length:Int)) (abd (cj v34 7) λr117=>abd (iter (CT v20) FU (r117.1,v35.an,r117.2)) λ((v132,v133):List ah×aT)=>abd (gY v133 5) λr139=>abd (cond (!r139.1) (abd (ix v35.aj v20) λx151=>abd (vd x151) λr152=>abd (ix v35.aj v20) λx153=>abd (iter (qJ v20 r152) FU (0,{v35 with aj:=(v35.aj.set (v20).toNat r152.bA),an:=v132})) λ(v179:ab)=>ς v179) (ς {v35 with an:=v132})) λ(v150:ab)=>ς (.next (WR (v20+1),r139.2,v150))) (ς (.done (v34,v35)))
def yW(a0:aT):Option (ab×aT):=
 abd (yT a0) λr1=>abd (abd (yQ r1.2) λr16=>abd (lq r16.2) λr17=>abd (cj r17.2 60) λr18=>abd (ry r16.1 r17.1 r1.1 (WR (30+r18.1))) λr19=>ς (r19.cX,r19.oG,r19.jM,r19.aU,r19.an,r19.aj,r19.dV.bp,r18.2,r19.d8)) λ((v5,v8,v9,v10,v11,v12,v13,v14,v15):Int×Int×Int×List am×List ah×List aC×List fk×aT×bW)=>abd (iter (CS) FU (0,v14,(⟨(⟨v13⟩:aV),v12,v11,v10,([]:List bT),v5,v15,v8,v9⟩:ab))) λ((v115,v116):aT×ab)=>ς (v116,v115)
instance O6{a0:aT}{r:ab×aT}:FCV prog (yW a0=ς r) 41 [(200,.var 92 (kM [.f] (bZ a0)))] [tP 200] [(200,.var 92 (kM [.f] (bZ r.2)))] (.v (.agg (kM [.t,.n 210,.n 211,.n 212,.n 213] (aS r.1)))) [(210,n45 r.1.aj),(211,n87 r.1.an),(212,n55 r.1.aU),(213,n71 r.1.aZ)]:=⟨λH=>by
 refine fV func41 ntmps41 ?_
 refine aa H λr1 q1 H=>sA (cwv [(200,200)] [(210,211)] 212 (KU.h q1)) ?_
 refine wI ?_
 obtain⟨⟨v5,v8,v9,v10,v11,v12,v13,v14,v15⟩,Hj,H⟩:=ob H
 refine AH ⟨[(0,tP 200),(2,tP 210),(4,tP 214)],(oM [.n 215,.n 216,.n 217,.n 218,.z] 214 34 (aS (⟨(⟨v13⟩:aV),v12,v11,v10,[],v5,v15,v8,v9⟩:ab))++[(200,.var 92 (kM [.f] (bZ v14))),(210,.var 34 (kM [.z,.z,.z,.z,.z] (aS {dh with dV:=(⟨[]⟩:aV)})))]),219⟩ Try.follows ?_ ?_
 .have H:=Hj
  refine sW 8 9 rfl ?_ ?_
  .refine tH [0,1,2,3,4,5,6,7,9,8,10] (by kernel_rfl) (by kernel_rfl) rfl ?_
   refine wI ?_
   refine aa H λr16 q16 H=>wA (cwx (o:=200) (FnV.frzW (CK.h q16) rfl rfl ⟨by first|rfl|simp,θ⟩ rfl)) ?_
   refine aa H λr17 q17 H=>wA (cwx (o:=200) (rP.h q17)) ?_
   refine aa H λr18 q18 H=>wA (cwx (o:=200) (dT.h q18)) ?_
   refine aa H λr19 q19 H=>zB (aK (g7 (o:=213)) (aK (fN (k:=16)) (ev 211))) (jP rfl (cwv [] [(210,215),(211,216),(212,217),(213,218)] 219 (wO.h q19))) cr ?_
   refine wA (spx 100437) ?_
   exact ai H
  refine tH [0,1,2,3,4,5,6,7,8,9,10] (by kernel_rfl) (by kernel_rfl) rfl ?_
  refine wI ?_
  refine aa H λr16 q16 H=>wA (cwx (o:=200) (FnV.frzW (CK.h q16) rfl rfl ⟨by first|rfl|simp,θ⟩ rfl)) ?_
  refine aa H λr17 q17 H=>wA (cwx (o:=200) (rP.h q17)) ?_
  refine aa H λr18 q18 H=>wA (cwx (o:=200) (dT.h q18)) ?_
  refine aa H λr19 q19 H=>zB (aK (g7 (o:=213)) (aK (fN (k:=16)) (ev 211))) (jP rfl (cwv [] [(210,214),(211,215),(212,216),(213,217)] 218 (wO.h q19))) cr ?_
  refine wA (spx 100438) ?_
  cases H
  refine aK (wS 214 218) ?_
  refine aK (wS 215 218) ?_
  refine aK (wS 216 218) ?_
  refine aK (wS 217 218) ?_
  exact wo
 refine wI ?_
 obtain⟨⟨v115,v116⟩,Hj,H⟩:=ob H
 refine jB ⟨[(2,tP 210),(4,tP 214)],(oM [.t,.n 216,.n 217,.n 218,.n 219] 214 34 (aS v116)++[(200,.var 92 (kM [.f] (bZ v115))),(210,.var 34 (kM [.z,.z,.z,.z,.z] (aS {dh with dV:=(⟨[]⟩:aV)})))]),220⟩ ?_ ?_
 .refine iT Hj (λq=>⟨[(0,tP 200),(2,tP 210),(4,tP 214),(5,tI q.1)],(oM [.t,.n 216,.n 217,.n 218,.n 219] 214 34 (aS q.2.2)++[(200,.var 92 (kM [.f] (bZ q.2.1))),(210,.var 34 (kM [.z,.z,.z,.z,.z] (aS {dh with dV:=(⟨[]⟩:aV)})))]),220⟩) ?_ (by refine aK (ev 215) ?_;refine aK (dY (o:=214) (j:=4) 71 21 ζ) ?_;refine aK (wB 219 (([]:List bT).length)) ?_;exact wo)
  rintro⟨v20,v34,v35⟩ o H
  refine ad ?_
  refine cC H ?_ ?_<;>intro H
  .refine aa H λr117 q117 H=>sA (cw (o:=200) (dT.h q117)) ?_
   obtain⟨⟨v132,v133⟩,Hj,H⟩:=ob H
   refine jB ⟨[(0,tP 200),(2,tP 210),(4,tP 214),(5,tI v20)],(oM [.t,.n 216,.n 217,.n 218,.n 219] 214 34 (aS {v35 with an:=v132})++[(200,.var 92 (kM [.f] (bZ v133))),(210,.var 34 (kM [.z,.z,.z,.z,.z] (aS {dh with dV:=(⟨[]⟩:aV)})))]),220⟩ ?_ ?_
   .refine iT Hj (λq=>⟨[(0,tP 200),(2,tP 210),(4,tP 214),(5,tI v20),(6,tI q.1)],(oM [.t,.n 216,.n 217,.n 218,.n 219] 214 34 (aS {v35 with an:=q.2.1})++[(200,.var 92 (kM [.f] (bZ q.2.2))),(210,.var 34 (kM [.z,.z,.z,.z,.z] (aS {dh with dV:=(⟨[]⟩:aV)})))]),220⟩) ?_
    rintro⟨v118,v122,v123⟩ o H
    refine ad ?_
    refine cC H ?_ ?_<;>intro H
    .refine zI (List.range 16) ?_
     refine aa H λx134 hx134 H=>zA (AD hx134) ?_
     refine zA (oean (he:=gk _ hx134)) ?_
     refine aa H λr135 q135 H=>wA (cwx (o:=200) (dT.h q135)) ?_
     refine aa H λr136 q136 H=>wA (cwx (o:=200) (CL.h q136)) ?_
     refine aa H λr137 q137 H=>zA (ca (hF:=AB.h q137)) ?_
     refine wA (spx 100462) ?_
     refine aa H λx138 hx138 H=>ea (vw 217 (hne:=HT (enc:=cO) hx138)) ?_
     refine nA (xwT hx138) ?_
     refine ea (g7 (o:=221)) ?_
     refine ea (g7 (o:=222)) ?_
     refine ea (g7 (o:=223)) ?_
     refine ea (fN (k:=51)) ?_
     refine sA (soT (enc:=cO) (a':=r137.1) hx138) ?_
     cases H
     refine uU ?_
     refine aK (gA 217) ?_
     refine aK (wB 217 ((v122.set (v20).toNat r137.1).length)) ?_
     exact wo
    exact aE H
   refine aa H λr139 q139 H=>sA (cw (o:=200) (pK.h q139)) ?_
   refine aa H λv150 Hj H=>jA ⟨[(0,tP 200),(2,tP 210),(4,tP 214),(5,tI v20)],(oM [.t,.n 216,.n 217,.n 218,.n 219] 214 34 (aS v150)++[(200,.var 92 (kM [.f] (bZ r139.2))),(210,.var 34 (kM [.z,.z,.z,.z,.z] (aS {dh with dV:=(⟨[]⟩:aV)})))]),220⟩ ?_ ?_
   .refine cC Hj ?_ ?_<;>intro H
    .refine aa H λx151 hx151 H=>ea (vw 216 (hne:=HT (enc:=di) hx151)) ?_
     refine nA (xwT hx151) ?_
     refine nA (oea (he:=gk _ hx151)) ?_
     refine aa H λr152 q152 H=>nA (ca (hF:=KH.h q152)) ?_
     refine aa H λx153 hx153 H=>nA (xwT hx153) ?_
     refine sA (soT (enc:=di) (a':=r152.bA) hx153) ?_
     refine aa H λv179 Hj H=>jB ⟨[(0,tP 200),(2,tP 210),(4,tP 214),(5,tI v20)],(oM [.t,.n 216,.n 217,.n 218,.n 219] 214 34 (aS v179)++[(200,.var 92 (kM [.f] (bZ r139.2))),(210,.var 34 (kM [.z,.z,.z,.z,.z] (aS {dh with dV:=(⟨[]⟩:aV)})))]),222⟩ ?_ ?_
     .refine iT Hj (λq=>⟨[(0,tP 200),(2,tP 210),(4,tP 214),(5,tI v20),(9,tP 221),(10,tI q.1)],(oM [.t,.n 216,.n 217,.n 218,.n 219] 214 34 (aS q.2)++(oM [.t,.t,.w 220] 221 140 (eb r152)++[(200,.var 92 (kM [.f] (bZ r139.2))),(210,.var 34 (kM [.z,.z,.z,.z,.z] (aS {dh with dV:=(⟨[]⟩:aV)})))])),222⟩) ?_ (by refine aK (gA 216) ?_;refine aK (wB 216 ((v35.aj.set (v20).toNat r152.bA).length)) ?_;exact wo)
      rintro⟨v154,v165⟩ o H
      refine ad ?_
      refine cC H ?_ ?_<;>intro H
      .refine zI (List.range 14) ?_
       refine aa H λx180 hx180 H=>zA (xwT hx180) ?_
       refine zA (oe (he:=gk _ hx180)) ?_
       refine aa H λx181 hx181 H=>zA (xwT hx181) ?_
       refine zA (oea (he:=gk _ hx181)) ?_
       refine aa H λr182 q182 H=>zB cr (jP rfl (cwu [(190,216),(191,217),(192,218),(193,219),(200,214)] [] 222 (K0.h q182))) cr ?_
       exact aN H
      exact aE H
     exact ai H
    exact ai H
   exact aN H
  exact aE H
 cases H
 refine ci (wS 216 210) ?_
 refine ci (wS 217 211) ?_
 refine ci (wS 218 212) ?_
 refine ci (wS 219 213) ?_
 exact dK⟩
end Go.AM
