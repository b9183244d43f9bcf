/- A part. -/
import Derived.Test.YtfbpfflnhfcmaaaGreatS5
import Derived.Test.YtfbpfflnhfcmaaaGreatS6
import Derived.Test.YtfbpfflnhfcmaaaGreatS7
import Derived.Test.YtfbpfflnhfcmaaaGreatS8
import Derived.Test.YtfbpfflnhfcmaaaGreatS9
set_option linter.unusedVariables false
open Option renaming some->ς,none->ξ
open Bool renaming true->ζ,false->η
open True renaming intro->θ
open Option renaming bind->acE
namespace Go.AM
open Go.Proofs
open Tryz
attribute [local irreducible] AWN NS AWO AWR AWC DR DZ du gr iter
set_option maxRecDepth 100000
set_option maxHeartbeats 40000000
def Ha(v20:Int):(Int×List ag×av)->Option (ci (Int×List ag×av) (List ag×av))
 |(v118,v122,v123)=>cond (ltB 0 v118) (acE (ix v122 v20) λx134=>acE (bC v123 4) λr135=>acE (tX r135.2 r135.1) λr136=>acE (lE x134 r136.1) λr137=>acE (ix v122 v20) λx138=>ς (.next (WR (v118-1),(v122.set (v20).toNat r137.1),r136.2))) (ς (.done (v122,v123)))
def t8(v20:Int)(r152:a9):(Int×ae)->Option (ci (Int×ae) (ae))
 |(v154,v165)=>cond (ltB v154 (r152.c9.length:Int)) (acE (ix r152.c9 v154) λx180=>acE (ix r152.c9 v154) λx181=>acE (iU v165 (⟨v20,ζ,η,x180.bh,x181,fg⟩:bA)) λr182=>ς (.next (WR (v154+1),r182))) (ς (.done v165))
def G9:(Int×av×ae)->Option (ci (Int×av×ae) (av×ae))
 |(v20,v34,v35)=>cond (ltB v20 (v35.ax.length:Int)) (acE (bC v34 7) λr117=>acE (iter (Ha v20) FU (r117.1,v35.aJ,r117.2)) λ((v132,v133):List ag×av)=>acE (gq v133 5) λr139=>acE (cond (!r139.1) (acE (ix v35.ax v20) λx151=>acE (wx x151) λr152=>acE (ix v35.ax v20) λx153=>acE (iter (t8 v20 r152) FU (0,{v35 with ax:=(v35.ax.set (v20).toNat r152.bj),aJ:=v132})) λ(v179:ae)=>ς v179) (ς {v35 with aJ:=v132})) λ(v150:ae)=>ς (.next (WR (v20+1),r139.2,v150))) (ς (.done (v34,v35)))
def CP(a0:av):Option (ae×av):=
 acE (zx a0) λr1=>acE (acE (CJ r1.2) λr16=>acE (nP r16.2) λr17=>acE (bC r17.2 60) λr18=>acE (uR r16.1 r17.1 r1.1 (WR (30+r18.1))) λr19=>ς (r19.cF,r19.lV,r19.Lost,r19.bD,r19.aJ,r19.ax,r19.d7.bp,r18.2,r19.fP)) λ((v5,v8,v9,v10,v11,v12,v13,v14,v15):Int×Int×Int×List aj×List ag×List aC×List dY×av×bE)=>acE (iter (G9) FU (0,v14,(⟨(⟨v13⟩:aZ),v12,v11,v10,([]:List bA),v5,v15,v8,v9⟩:ae))) λ((v115,v116):av×ae)=>ς (v116,v115)
instance Tp{a0:av}{r:ae×av}:FCV prog (CP a0=ς r) 72 [(200,.var 124 (kM [.f] (be a0)))] [tP 200] [(200,.var 124 (kM [.f] (be r.2)))] (.v (.agg (kM [.t,.n 210,.n 211,.n 212,.n 213] (bF r.1)))) [(210,n67 r.1.ax),(211,n93 r.1.aJ),(212,Bp r.1.bD),(213,n48 r.1.aT)]:=⟨λH=>by
 refine fV func72 ntmps72 ?_
 refine aa H λr1 q1 H=>sA (cwv [(200,200)] [(210,211)] 212 (OH.h q1)) ?_
 refine wI ?_
 obtain⟨⟨v5,v8,v9,v10,v11,v12,v13,v14,v15⟩,Hj,H⟩:=ob H
 refine O9 ⟨[(0,tP 200),(2,tP 210),(4,tP 214)],(oM [.n 215,.n 216,.n 217,.n 218,.z] 214 34 (bF (⟨(⟨v13⟩:aZ),v12,v11,v10,[],v5,v15,v8,v9⟩:ae))++[(200,.var 124 (kM [.f] (be v14))),(210,.var 34 (kM [.z,.z,.z,.z,.z] (bF {eE with d7:=(⟨[]⟩:aZ)})))]),219⟩ Try.follows ?_ ?_
 .have H:=Hj
  refine Ie 8 9 rfl ?_ ?_
  .refine Js [0,1,2,3,4,5,6,7,9,8,10] (by kernel_rfl) (by kernel_rfl) rfl ?_
   refine wI ?_
   refine aa H λr16 q16 H=>wA (cwx (o:=200) (FnV.frzW (GW.h q16) rfl rfl ⟨by first|rfl|simp,θ⟩ rfl)) ?_
   refine aa H λr17 q17 H=>wA (cwx (o:=200) (ve.h q17)) ?_
   refine aa H λr18 q18 H=>wA (cwx (o:=200) (cr.h q18)) ?_
   refine aa H λr19 q19 H=>zB (aP (dK (o:=213)) (aP (di (k:=16)) (ia 211))) (kz rfl (cwv [] [(210,215),(211,216),(212,217),(213,218)] 219 (AZ.h q19))) cA ?_
   refine wA (spx 100218) ?_
   exact ai H
  refine Js [0,1,2,3,4,5,6,7,8,9,10] (by kernel_rfl) (by kernel_rfl) rfl ?_
  refine wI ?_
  refine aa H λr16 q16 H=>wA (cwx (o:=200) (FnV.frzW (GW.h q16) rfl rfl ⟨by first|rfl|simp,θ⟩ rfl)) ?_
  refine aa H λr17 q17 H=>wA (cwx (o:=200) (ve.h q17)) ?_
  refine aa H λr18 q18 H=>wA (cwx (o:=200) (cr.h q18)) ?_
  refine aa H λr19 q19 H=>zB (aP (dK (o:=213)) (aP (di (k:=16)) (ia 211))) (kz rfl (cwv [] [(210,214),(211,215),(212,216),(213,217)] 218 (AZ.h q19))) cA ?_
  refine wA (spx 100219) ?_
  cases H
  refine aP (wS 214 218) ?_
  refine aP (wS 215 218) ?_
  refine aP (wS 216 218) ?_
  refine aP (wS 217 218) ?_
  exact wo
 refine wI ?_
 obtain⟨⟨v115,v116⟩,Hj,H⟩:=ob H
 refine jB ⟨[(2,tP 210),(4,tP 214)],(oM [.t,.n 216,.n 217,.n 218,.n 219] 214 34 (bF v116)++[(200,.var 124 (kM [.f] (be v115))),(210,.var 34 (kM [.z,.z,.z,.z,.z] (bF {eE with d7:=(⟨[]⟩:aZ)})))]),220⟩ ?_ ?_
 .refine iT Hj (λq=>⟨[(0,tP 200),(2,tP 210),(4,tP 214),(5,tI q.1)],(oM [.t,.n 216,.n 217,.n 218,.n 219] 214 34 (bF q.2.2)++[(200,.var 124 (kM [.f] (be q.2.1))),(210,.var 34 (kM [.z,.z,.z,.z,.z] (bF {eE with d7:=(⟨[]⟩:aZ)})))]),220⟩) ?_ (by refine aP (ia 215) ?_;refine aP (eo (o:=214) (j:=4) 48 21 ζ) ?_;refine aP (wB 219 (([]:List bA).length)) ?_;exact wo)
  rintro⟨v20,v34,v35⟩ o H
  refine ad ?_
  refine cC H ?_ ?_<;>intro H
  .refine aa H λr117 q117 H=>sA (cw (o:=200) (cr.h q117)) ?_
   obtain⟨⟨v132,v133⟩,Hj,H⟩:=ob H
   refine jB ⟨[(0,tP 200),(2,tP 210),(4,tP 214),(5,tI v20)],(oM [.t,.n 216,.n 217,.n 218,.n 219] 214 34 (bF {v35 with aJ:=v132})++[(200,.var 124 (kM [.f] (be v133))),(210,.var 34 (kM [.z,.z,.z,.z,.z] (bF {eE with d7:=(⟨[]⟩:aZ)})))]),220⟩ ?_ ?_
   .refine iT Hj (λq=>⟨[(0,tP 200),(2,tP 210),(4,tP 214),(5,tI v20),(6,tI q.1)],(oM [.t,.n 216,.n 217,.n 218,.n 219] 214 34 (bF {v35 with aJ:=q.2.1})++[(200,.var 124 (kM [.f] (be q.2.2))),(210,.var 34 (kM [.z,.z,.z,.z,.z] (bF {eE with d7:=(⟨[]⟩:aZ)})))]),220⟩) ?_
    rintro⟨v118,v122,v123⟩ o H
    refine ad ?_
    refine cC H ?_ ?_<;>intro H
    .refine zI (List.range 16) ?_
     refine aa H λx134 hx134 H=>zA (oG hx134) ?_
     refine zA (oean (he:=kK _ hx134)) ?_
     refine aa H λr135 q135 H=>wA (cwx (o:=200) (cr.h q135)) ?_
     refine aa H λr136 q136 H=>wA (cwx (o:=200) (BC.h q136)) ?_
     refine aa H λr137 q137 H=>zA (ca (hF:=Ei.h q137)) ?_
     refine wA (spx 100243) ?_
     refine aa H λx138 hx138 H=>dW (lv 217 (hne:=yd (enc:=cp) hx138)) ?_
     refine nA (xwT hx138) ?_
     refine dW (dK (o:=221)) ?_
     refine dW (dK (o:=222)) ?_
     refine dW (dK (o:=223)) ?_
     refine dW (di (k:=51)) ?_
     refine sA (soT (enc:=cp) (a':=r137.1) hx138) ?_
     cases H
     refine uj ?_
     refine aP (fZ 217) ?_
     refine aP (wB 217 ((v122.set (v20).toNat r137.1).length)) ?_
     exact wo
    exact aE H
   refine aa H λr139 q139 H=>sA (cw (o:=200) (ko.h q139)) ?_
   refine aa H λv150 Hj H=>jA ⟨[(0,tP 200),(2,tP 210),(4,tP 214),(5,tI v20)],(oM [.t,.n 216,.n 217,.n 218,.n 219] 214 34 (bF v150)++[(200,.var 124 (kM [.f] (be r139.2))),(210,.var 34 (kM [.z,.z,.z,.z,.z] (bF {eE with d7:=(⟨[]⟩:aZ)})))]),220⟩ ?_ ?_
   .refine cC Hj ?_ ?_<;>intro H
    .refine aa H λx151 hx151 H=>dW (lv 216 (hne:=yd (enc:=dF) hx151)) ?_
     refine nA (xwT hx151) ?_
     refine nA (oea (he:=kK _ hx151)) ?_
     refine aa H λr152 q152 H=>nA (ca (hF:=Ox.h q152)) ?_
     refine aa H λx153 hx153 H=>nA (xwT hx153) ?_
     refine sA (soT (enc:=dF) (a':=r152.bj) hx153) ?_
     refine aa H λv179 Hj H=>jB ⟨[(0,tP 200),(2,tP 210),(4,tP 214),(5,tI v20)],(oM [.t,.n 216,.n 217,.n 218,.n 219] 214 34 (bF v179)++[(200,.var 124 (kM [.f] (be r139.2))),(210,.var 34 (kM [.z,.z,.z,.z,.z] (bF {eE with d7:=(⟨[]⟩:aZ)})))]),222⟩ ?_ ?_
     .refine iT Hj (λq=>⟨[(0,tP 200),(2,tP 210),(4,tP 214),(5,tI v20),(9,tP 221),(10,tI q.1)],(oM [.t,.n 216,.n 217,.n 218,.n 219] 214 34 (bF q.2)++(oM [.t,.t,.w 220] 221 169 (dx r152)++[(200,.var 124 (kM [.f] (be r139.2))),(210,.var 34 (kM [.z,.z,.z,.z,.z] (bF {eE with d7:=(⟨[]⟩:aZ)})))])),222⟩) ?_ (by refine aP (fZ 216) ?_;refine aP (wB 216 ((v35.ax.set (v20).toNat r152.bj).length)) ?_;exact wo)
      rintro⟨v154,v165⟩ o H
      refine ad ?_
      refine cC H ?_ ?_<;>intro H
      .refine zI (List.range 14) ?_
       refine aa H λx180 hx180 H=>zA (xwT hx180) ?_
       refine zA (oe (he:=kK _ hx180)) ?_
       refine aa H λx181 hx181 H=>zA (xwT hx181) ?_
       refine zA (oea (he:=kK _ hx181)) ?_
       refine aa H λr182 q182 H=>zB cA (kz rfl (cwu [(190,216),(191,217),(192,218),(193,219),(200,214)] [] 222 (OK.h q182))) cA ?_
       exact aN H
      exact aE H
     exact ai H
    exact ai H
   exact aN H
  exact aE H
 cases H
 refine bM (wS 216 210) ?_
 refine bM (wS 217 211) ?_
 refine bM (wS 218 212) ?_
 refine bM (wS 219 213) ?_
 exact dy⟩
def Aq(a0:aC)(a1:aG):Option a9:=
 acE (mT a0.dO a1.b8) λr1=>acE (lr a0) λr2=>cond (!eqB r1.2.Code 0) (ς (⟨r2,([]:List aG)⟩:a9)) (ς (⟨{r2 with dO:=r1.1,ah:=a1.ah,bg:=r1.2.wO},[(⟨3,a0.bh,a1.ah,0,r1.2.vP,cH,0⟩:aG)]⟩:a9))
instance abq{a0:aC}{a1:aG}{r:a9}:FC prog (Aq a0 a1=ς r) 362 [.agg (dF a0),.agg (dM a1)] [.agg (qM [.o,.o,.o] (dx r))]:=gG func362 ntmps362
def ki(a0:aC)(a1:aG):Option a9:=
 acE (mr a1) λr1=>acE (cond (!r1) (ς ζ) (cond (!eqB a1.bh a0.bh) (ς ζ) (ς (eqB a0.bz 0)))) λ(v2:Bool)=>cond v2 (acE (tZ a0) λr3=>ς r3) (acE (lr a0) λr4=>acE (cond (eqB a1.bu 2) (ς (eqB a0.bz 1)) (ς η)) λ(v5:Bool)=>cond v5 (acE (Aq a0 a1) λr6=>ς r6) (acE (cond (eqB a1.bu 4) (cond (eqB a0.bz 1) (acE (iA a0.bg) λr8=>cond r8 (cond (eqB a1.ah a0.ah) (acE (iC a0.bg a1) λr9=>ς r9) (ς η)) (ς η)) (ς η)) (ς η)) λ(v7:Bool)=>cond v7 (ς (⟨{r4 with bz:=2,aY:=a1.aY,cj:=ζ},([]:List aG)⟩:a9)) (acE (cond (eqB a1.bu 6) (cond (eqB a0.bz 2) (cond (eqB a1.ah a0.ah) (cond (eqB a1.aY a0.aY) (acE (iC a0.bg a1) λr11=>ς r11) (ς η)) (ς η)) (ς η)) (ς η)) λ(v10:Bool)=>cond v10 (ς (⟨{r4 with cj:=ζ},([]:List aG)⟩:a9)) (acE (cond (eqB a1.bu 7) (cond (eqB a0.bz 3) (ς (ltB a0.aY 999999)) (ς η)) (ς η)) λ(v12:Bool)=>cond v12 (acE (zD {r4 with bz:=2}) λr13=>ς r13) (acE (cond (eqB a1.bu 7) (ς (eqB a0.bz 2)) (ς η)) λ(v14:Bool)=>cond v14 (acE (wH a0) λr15=>acE (nD {r4 with cj:=η} r15) λr16=>ς r16) (ς (⟨r4,([]:List aG)⟩:a9)))))))
instance Ta{a0:aC}{a1:aG}{r:a9}:FC prog (ki a0 a1=ς r) 320 [.agg (dF a0),.agg (dM a1)] [.agg (qM [.d,.d,.o] (dx r))]:=gG func320 ntmps320 (hb 9 20) (hb 29 25) (hb 41 37) (hb 73 69) (hb 103 99) (hb 120 116) (hz 17)
end Go.AM
