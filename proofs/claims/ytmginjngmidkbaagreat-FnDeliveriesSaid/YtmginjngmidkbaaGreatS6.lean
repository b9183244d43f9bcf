/- A part. -/
import Derived.Test.YtmginjngmidkbaaGreatS5
set_option linter.unusedVariables false
open Option renaming bind->abU
open List renaming range->hV
open Int renaming tmod->abW
namespace Go.AM
open Go.Proofs
open Tryz
attribute [local irreducible] AWN NS AWO AWR AWC DR ea gL
set_option maxRecDepth 100000
set_option maxHeartbeats 40000000
variable {a0 r a1:Int}
def HN (v20:Int):(Int×List ah×bm)->Option (cq (Int×List ah×bm) (List ah×bm))
 |(v118,v122,v123)=>bif ltB 0 v118 then(abU (ix v122 v20) λx134=>abU (cI v123 4) λr135=>abU (zm r135.2 r135.1) λr136=>abU (mD x134 r136.1) λr137=>abU (ix v122 v20) λx138=>some (.next (WR (v118-1),(v122.set (v20).toNat r137.1),r136.2))) else(some (.done (v122,v123)))
def ta (v20:Int) (r152:a9):(Int×ab)->Option (cq (Int×ab) (ab))
 |(v154,v165)=>bif ltB v154 (r152.db.length:Int) then(abU (ix r152.db v154) λx180=>abU (ix r152.db v154) λx181=>abU (gk v165 (⟨v20,true,false,x180.be,x181,eE⟩:bF)) λr182=>some (.next (WR (v154+1),r182))) else(some (.done v165))
def HM:(Int×bm×ab)->Option (cq (Int×bm×ab) (bm×ab))
 |(v20,v34,v35)=>bif ltB v20 (v35.av.length:Int) then(abU (cI v34 7) λr117=>abU (iter (HN v20) FU (r117.1,v35.aF,r117.2)) λ((v132,v133):List ah×bm)=>abU (i9 v133 5) λr139=>abU (bif !r139.1 then(abU (ix v35.av v20) λx151=>abU (y7 x151) λr152=>abU (ix v35.av v20) λx153=>abU (iter (ta v20 r152) FU (0,{v35 with av:=(v35.av.set (v20).toNat r152.bk),aF:=v132})) λ(v179:ab)=>some v179) else(some {v35 with aF:=v132})) λ(v150:ab)=>some (.next (WR (v20+1),r139.2,v150))) else(some (.done (v34,v35)))
def CS (a0:bm):Option (ab×bm):=
 abU (CN a0) λr1=>abU (abU (CI r1.2) λr16=>abU (mV r16.2) λr17=>abU (cI r17.2 60) λr18=>abU (tY r16.1 r17.1 r1.1 (WR (30+r18.1))) λr19=>some (r19.dv,r19.qz,r19.jr,r19.bG,r19.aF,r19.av,r19.eo.aX,r18.2,r19.ef)) λ((v5,v8,v9,v10,v11,v12,v13,v14,v15):Int×Int×Int×List am×List ah×List aJ×List fr×bm×bN)=>abU (iter (HM) FU (0,v14,(⟨(⟨v13⟩:aS),v12,v11,v10,([]:List bF),v5,v15,v8,v9⟩:ab))) λ((v115,v116):bm×ab)=>some (v116,v115)
theorem Su {a0:bm} {r:ab×bm} (H:CS a0=some r):FnV prog 111 [(200,.var 135 (kM [.f] (ci a0)))] [tP 200] [(200,.var 135 (kM [.f] (ci r.2)))] (.v (.agg (kM [.t,.n 210,.n 211,.n 212,.n 213] (aU r.1)))) [(210,n93 r.1.av),(211,n75 r.1.aF),(212,n57 r.1.bG),(213,n49 r.1.aK)]:=by
 refine fV func111 ntmps111 ?_
 refine aa H λr1 q1 H=>sA (cwv [(200,200)] [(210,211)] 212 (O1 q1)) ?_
 refine wI ?_
 obtain⟨⟨v5,v8,v9,v10,v11,v12,v13,v14,v15⟩,Hj,H⟩:=ob H
 refine Ws ⟨[(0,tP 200),(2,tP 210),(4,tP 214)],(oM [.n 215,.n 216,.n 217,.n 218,.z] 214 34 (aU (⟨(⟨v13⟩:aS),v12,v11,v10,[],v5,v15,v8,v9⟩:ab))++[(200,.var 135 (kM [.f] (ci v14))),(210,.var 34 (kM [.z,.z,.z,.z,.z] (aU {dT with eo:=(⟨[]⟩:aS)})))]),219⟩ Try.follows ?_ ?_
 .have H:=Hj
  refine Rb 8 9 rfl ?_ ?_
  .refine Th [0,1,2,3,4,5,6,7,9,8,10] (by kernel_rfl) (by kernel_rfl) rfl ?_
   refine wI ?_
   refine aa H λr16 q16 H=>wA (cwx (o:=200) (FnV.frzW (HB q16) rfl rfl ⟨by first|rfl|simp,trivial⟩ rfl)) ?_
   refine aa H λr17 q17 H=>wA (cwx (o:=200) (uq q17)) ?_
   refine aa H λr18 q18 H=>wA (cwx (o:=200) (cp q18)) ?_
   refine aa H λr19 q19 H=>zB (aq (bb (o:=213)) (aq (b7 (k:=16)) (fU 211))) (gG rfl (cwv [] [(210,215),(211,216),(212,217),(213,218)] 219 (AJ q19))) b8 ?_
   refine wA (spx 100218) ?_
   exact ai H
  refine Th [0,1,2,3,4,5,6,7,8,9,10] (by kernel_rfl) (by kernel_rfl) rfl ?_
  refine wI ?_
  refine aa H λr16 q16 H=>wA (cwx (o:=200) (FnV.frzW (HB q16) rfl rfl ⟨by first|rfl|simp,trivial⟩ rfl)) ?_
  refine aa H λr17 q17 H=>wA (cwx (o:=200) (uq q17)) ?_
  refine aa H λr18 q18 H=>wA (cwx (o:=200) (cp q18)) ?_
  refine aa H λr19 q19 H=>zB (aq (bb (o:=213)) (aq (b7 (k:=16)) (fU 211))) (gG rfl (cwv [] [(210,214),(211,215),(212,216),(213,217)] 218 (AJ q19))) b8 ?_
  refine wA (spx 100219) ?_
  cases H
  refine aq (wS 214 218) ?_
  refine aq (wS 215 218) ?_
  refine aq (wS 216 218) ?_
  refine aq (wS 217 218) ?_
  exact wo
 refine wI ?_
 obtain⟨⟨v115,v116⟩,Hj,H⟩:=ob H
 refine jB ⟨[(2,tP 210),(4,tP 214)],(oM [.t,.n 216,.n 217,.n 218,.n 219] 214 34 (aU v116)++[(200,.var 135 (kM [.f] (ci v115))),(210,.var 34 (kM [.z,.z,.z,.z,.z] (aU {dT with eo:=(⟨[]⟩:aS)})))]),220⟩ ?_ ?_
 .refine iT Hj (λq=>⟨[(0,tP 200),(2,tP 210),(4,tP 214),(5,tI q.1)],(oM [.t,.n 216,.n 217,.n 218,.n 219] 214 34 (aU q.2.2)++[(200,.var 135 (kM [.f] (ci q.2.1))),(210,.var 34 (kM [.z,.z,.z,.z,.z] (aU {dT with eo:=(⟨[]⟩:aS)})))]),220⟩) ?_ (by refine aq (fU 215) ?_;refine aq (dY (o:=214) (j:=4) 49 21 true) ?_;refine aq (wB 219 (([]:List bF).length)) ?_;exact wo)
  rintro⟨v20,v34,v35⟩ o H
  refine ad ?_
  refine cC H ?_ ?_<;>intro H
  .refine aa H λr117 q117 H=>sA (cw (o:=200) (cp q117)) ?_
   obtain⟨⟨v132,v133⟩,Hj,H⟩:=ob H
   refine jB ⟨[(0,tP 200),(2,tP 210),(4,tP 214),(5,tI v20)],(oM [.t,.n 216,.n 217,.n 218,.n 219] 214 34 (aU {v35 with aF:=v132})++[(200,.var 135 (kM [.f] (ci v133))),(210,.var 34 (kM [.z,.z,.z,.z,.z] (aU {dT with eo:=(⟨[]⟩:aS)})))]),220⟩ ?_ ?_
   .refine iT Hj (λq=>⟨[(0,tP 200),(2,tP 210),(4,tP 214),(5,tI v20),(6,tI q.1)],(oM [.t,.n 216,.n 217,.n 218,.n 219] 214 34 (aU {v35 with aF:=q.2.1})++[(200,.var 135 (kM [.f] (ci q.2.2))),(210,.var 34 (kM [.z,.z,.z,.z,.z] (aU {dT with eo:=(⟨[]⟩:aS)})))]),220⟩) ?_
    rintro⟨v118,v122,v123⟩ o H
    refine ad ?_
    refine cC H ?_ ?_<;>intro H
    .refine zI (hV 16) ?_
     refine aa H λx134 hx134 H=>zA (qy hx134) ?_
     refine zA (KP (he:=f7 _ hx134)) ?_
     refine aa H λr135 q135 H=>wA (cwx (o:=200) (cp q135)) ?_
     refine aa H λr136 q136 H=>wA (cwx (o:=200) (HC q136)) ?_
     refine aa H λr137 q137 H=>zA (ca (hF:=xJ q137)) ?_
     refine wA (spx 100243) ?_
     refine aa H λx138 hx138 H=>bQ (lI 217 (hne:=yH (enc:=bU) hx138)) ?_
     refine nA (xwT hx138) ?_
     refine bQ (bb (o:=221)) ?_
     refine bQ (bb (o:=222)) ?_
     refine bQ (bb (o:=223)) ?_
     refine bQ (b7 (k:=51)) ?_
     refine sA (soT (enc:=bU) (a':=r137.1) hx138) ?_
     cases H
     refine uQ ?_
     refine aq (ee 217) ?_
     refine aq (wB 217 ((v122.set (v20).toNat r137.1).length)) ?_
     exact wo
    exact aE H
   refine aa H λr139 q139 H=>sA (cw (o:=200) (iQ q139)) ?_
   refine aa H λv150 Hj H=>jA ⟨[(0,tP 200),(2,tP 210),(4,tP 214),(5,tI v20)],(oM [.t,.n 216,.n 217,.n 218,.n 219] 214 34 (aU v150)++[(200,.var 135 (kM [.f] (ci r139.2))),(210,.var 34 (kM [.z,.z,.z,.z,.z] (aU {dT with eo:=(⟨[]⟩:aS)})))]),220⟩ ?_ ?_
   .refine cC Hj ?_ ?_<;>intro H
    .refine aa H λx151 hx151 H=>bQ (lI 216 (hne:=yH (enc:=cS) hx151)) ?_
     refine nA (xwT hx151) ?_
     refine nA (oea (he:=f7 _ hx151)) ?_
     refine aa H λr152 q152 H=>nA (ca (hF:=Hn q152)) ?_
     refine aa H λx153 hx153 H=>nA (xwT hx153) ?_
     refine sA (soT (enc:=cS) (a':=r152.bk) hx153) ?_
     refine aa H λv179 Hj H=>jB ⟨[(0,tP 200),(2,tP 210),(4,tP 214),(5,tI v20)],(oM [.t,.n 216,.n 217,.n 218,.n 219] 214 34 (aU v179)++[(200,.var 135 (kM [.f] (ci r139.2))),(210,.var 34 (kM [.z,.z,.z,.z,.z] (aU {dT with eo:=(⟨[]⟩:aS)})))]),220⟩ ?_ ?_
     .refine iT Hj (λq=>⟨[(0,tP 200),(2,tP 210),(4,tP 214),(5,tI v20),(9,tP 221),(10,tI q.1)],(oM [.t,.n 216,.n 217,.n 218,.n 219] 214 34 (aU q.2)++(oM [.t,.t,.w 220] 221 189 (cf r152)++[(200,.var 135 (kM [.f] (ci r139.2))),(210,.var 34 (kM [.z,.z,.z,.z,.z] (aU {dT with eo:=(⟨[]⟩:aS)})))])),222⟩) ?_ (by refine aq (ee 216) ?_;refine aq (wB 216 ((v35.av.set (v20).toNat r152.bk).length)) ?_;exact wo)
      rintro⟨v154,v165⟩ o H
      refine ad ?_
      refine cC H ?_ ?_<;>intro H
      .refine zI (hV 14) ?_
       refine aa H λx180 hx180 H=>zA (xwT hx180) ?_
       refine zA (oe (he:=f7 _ hx180)) ?_
       refine aa H λx181 hx181 H=>zA (xwT hx181) ?_
       refine zA (oea (he:=f7 _ hx181)) ?_
       refine aa H λr182 q182 H=>zB b8 (gG rfl (cwu [(190,216),(191,217),(192,218),(193,219),(200,214)] [] 222 (tc q182))) b8 ?_
       exact aN H
      exact aE H
     exact ai H
    exact ai H
   exact aN H
  exact aE H
 cases H
 refine co (wS 216 210) ?_
 refine co (wS 217 211) ?_
 refine co (wS 218 212) ?_
 refine co (wS 219 213) ?_
 exact cd
def kr (a0:ah):Option Bool:=
 abU (bif eqB a0.bj 1 then(abU (im a0.aV) λr2=>bif !r2 then(some true) else(bif ltB 0 a0.bE then(abU (im a0.aC.eP) λr3=>bif !r3 then(some true) else(abU (dB a0.bj 0 1) λr4=>some (!r4))) else(abU (dB a0.bj 0 1) λr5=>some (!r5)))) else(bif ltB 0 a0.bE then(abU (im a0.aC.eP) λr6=>bif !r6 then(some true) else(abU (dB a0.bj 0 1) λr7=>some (!r7))) else(abU (dB a0.bj 0 1) λr8=>some (!r8)))) λ(v1:Bool)=>bif v1 then(some false) else(abU (eN a0.bA) λr9=>abU (bif !r9 then(some true) else(abU (gQ a0.gF) λr11=>bif !r11 then(some true) else(abU (oK a0.ge) λr12=>bif !r12 then(some true) else(abU (ip a0.bT) λr13=>bif !r13 then(some true) else(abU (xb a0) λr14=>some (!r14)))))) λ(v10:Bool)=>bif v10 then(some false) else(abU (dB a0.bE 0 999999) λr15=>abU (bif !r15 then(some true) else(abU (dB a0.ag 0 999999) λr17=>bif !r17 then(some true) else(abU (dB a0.aT 0 999999) λr18=>bif !r18 then(some true) else(abU (dB a0.aV 0 2147483646) λr19=>some (!r19))))) λ(v16:Bool)=>bif v16 then(some false) else(abU (dB a0.be 0 5) λr20=>abU (bif r20 then(abU (dB a0.d6 0 5) λr22=>bif r22 then(abU (dB a0.dP 0 3) λr23=>some r23) else(some false)) else(some false)) λ(v21:Bool)=>some v21)))
theorem tV {a0:ah} {r:Bool} (H:kr a0=some r):Fn prog 204 [.agg (bU a0)] [.c (.d (.b r))]:=by
 refine fI func204 ntmps204 ?_
 refine aa H λv1 Hj H=>jR ⟨[(1,tP 0),(29,tB v1)],[(0,.var 75 (kM [.f,.f,.f] (ct a0)))],1⟩ ?_ ?_
 .refine gC Hj ?_ ?_<;>intro H
  .refine aa H λr2 q2 H=>nG (ca (hF:=jg q2)) ?_
   refine gC H ?_ ?_<;>intro H
   .exact ai H
   refine gC H ?_ ?_<;>intro H
   .refine aa H λr3 q3 H=>nG (ca (hF:=jg q3)) ?_
    refine gC H ?_ ?_<;>intro H
    .exact ai H
    refine aa H λr4 q4 H=>nG (ca (hF:=cm q4)) ?_
    exact ai H
   refine aa H λr5 q5 H=>nG (ca (hF:=cm q5)) ?_
   exact ai H
  refine gC H ?_ ?_<;>intro H
  .refine aa H λr6 q6 H=>nG (ca (hF:=jg q6)) ?_
   refine gC H ?_ ?_<;>intro H
   .exact ai H
   refine aa H λr7 q7 H=>nG (ca (hF:=cm q7)) ?_
   exact ai H
  refine aa H λr8 q8 H=>nG (ca (hF:=cm q8)) ?_
  exact ai H
 refine cC H ?_ ?_<;>intro H
 .exact ao H
 refine aa H λr9 q9 H=>nA (ca (hF:=iH q9)) ?_
 refine aa H λv10 Hj H=>jR ⟨[(1,tP 0),(56,tB v10)],[(0,.var 75 (kM [.f,.f,.f] (ct a0)))],1⟩ ?_ ?_
 .refine gC Hj ?_ ?_<;>intro H
  .exact ai H
  refine aa H λr11 q11 H=>nG (ca (hF:=oN q11)) ?_
  refine gC H ?_ ?_<;>intro H
  .exact ai H
  refine aa H λr12 q12 H=>nG (ca (hF:=DJ q12)) ?_
  refine gC H ?_ ?_<;>intro H
  .exact ai H
  refine aa H λr13 q13 H=>nG (ca (hF:=ko q13)) ?_
  refine gC H ?_ ?_<;>intro H
  .exact ai H
  refine aa H λr14 q14 H=>nG (ca (hF:=Lf q14)) ?_
  exact ai H
 refine cC H ?_ ?_<;>intro H
 .exact ao H
 refine aa H λr15 q15 H=>nA (ca (hF:=cm q15)) ?_
 refine aa H λv16 Hj H=>jR ⟨[(1,tP 0),(78,tB v16)],[(0,.var 75 (kM [.f,.f,.f] (ct a0)))],1⟩ ?_ ?_
 .refine gC Hj ?_ ?_<;>intro H
  .exact ai H
  refine aa H λr17 q17 H=>nG (ca (hF:=cm q17)) ?_
  refine gC H ?_ ?_<;>intro H
  .exact ai H
  refine aa H λr18 q18 H=>nG (ca (hF:=cm q18)) ?_
  refine gC H ?_ ?_<;>intro H
  .exact ai H
  refine aa H λr19 q19 H=>nG (ca (hF:=cm q19)) ?_
  exact ai H
 refine cC H ?_ ?_<;>intro H
 .exact ao H
 refine aa H λr20 q20 H=>nA (ca (hF:=cm q20)) ?_
 refine aa H λv21 Hj H=>jR ⟨[(2,tB v21)],[],0⟩ ?_ ?_
 .refine gC Hj ?_ ?_<;>intro H
  .refine aa H λr22 q22 H=>nG (ca (hF:=cm q22)) ?_
   refine gC H ?_ ?_<;>intro H
   .refine aa H λr23 q23 H=>nG (ca (hF:=cm q23)) ?_
    exact ai H
   exact ai H
  exact ai H
 exact ao H
def D7 (a0:Int) (a1:bp):Option Int:=
 abU (rD a1.bg) λr1=>bif c8 8 ([a1.cM,a1.fE]++r1).length then(abU (fa a0 ([a1.cM,a1.fE]++r1)) λr2=>some r2) else none
theorem Nt {a1:bp} (H:D7 a0 a1=some r):Fn prog 208 [aI a0,.agg (eh a1)] [.c (.d (.i .i64 r))]:=by
 refine fI func208 ntmps208 ?_
 refine zI (hV 12) ?_
 refine aa H λr1 q1 H=>zA (ca (hF:=He q1)) ?_
 obtain⟨h,H⟩:=rq H
 refine wA (H5 (enc:=eI) (ys:=[a1.cM,a1.fE]) (zs:=r1) [1,2] h) ?_
 refine aa H λr2 q2 H=>zA (ca (hF:=eS q2)) ?_
 refine mK (ds:=[1]) (by kernel_rfl) (by kernel_rfl) rfl ?_
 refine wI ?_
 exact ao H
def pD (a0:Int) (a1:Int):Option Int:=
 abU (fa a0 [9,a1]) λr1=>abU (Hi 1 r1) λr2=>some r2
theorem wR (H:pD a0 a1=some r):Fn prog 290 [aI a0,aI a1] [.c (.d (.i .i64 r))]:=by
 refine fI func290 ntmps290 ?_
 refine aa H λr1 q1 H=>nA (ca (hF:=eS q1)) ?_
 refine aa H λr2 q2 H=>nA (ca (hF:=DL q2)) ?_
 exact ao H
def mB (a0:Int) (a1:Int):Option Int:=
 abU (fa a0 [1,a1]) λr1=>abU (Iw r1 1000000) λr2=>some r2
theorem xI (H:mB a0 a1=some r):Fn prog 293 [aI a0,aI a1] [.c (.d (.i .i64 r))]:=by
 refine fI func293 ntmps293 ?_
 refine aa H λr1 q1 H=>nA (ca (hF:=eS q1)) ?_
 refine aa H λr2 q2 H=>nA (ca (hF:=Bh q2)) ?_
 exact ao H
def yZ (a0:Int) (a1:List Int):(Int×List Int)->Option (cq (Int×List Int) (List Int))
 |(v1,v2)=>bif ltB v1 (a1.length:Int) then(abU (ix a1 v1) λx6=>abU (fa a0 [v1]) λr7=>bif c8 1 (v2++[IntKind.u8.wrap (abW (WR ((WR (x6))+(abW r7 256))) 256)]).length then(some (.next (WR (v1+1),(v2++[IntKind.u8.wrap (abW (WR ((WR (x6))+(abW r7 256))) 256)])))) else none) else(some (.done v2))
def Cs (a0:Int) (a1:List Int):Option (List Int):=
 abU (iter (yZ a0 a1) FU (0,([]:List Int))) λ(v5:List Int)=>some v5
theorem OM {a1:List Int} {r:List Int} (H:Cs a0 a1=some r):Fn prog 342 [aI a0,aL (a1.map eU8)] [.c (.own 5 1 (r.map eU8) r.length)]:=by
 refine fI func342 ntmps342 ?_
 refine aa H λv5 Hj H=>jB ⟨[(5,.v (.c (.w 0 v5.length)))],[(0,w5 v5)],1⟩ ?_ ?_
 .refine iT Hj (λq=>⟨[(0,tI a0),(1,.v (.c (.d false (.l (a1.map eU8))))),(5,.v (.c (.w 0 q.2.length))),(6,tI q.1)],[(0,w5 q.2)],1⟩) ?_
  rintro⟨v1,v2⟩ o H
  refine ad ?_
  refine cC H ?_ ?_<;>intro H
  .refine nO [0,1,2,3,4,5,6,7,8,9,10,11,12,13,14,15,16] (h:=?_)
   refine wkb ?_
   refine aa H λx6 hx6 H=>iS rfl (xdT (enc:=eU8) hx6) ?_
   refine wkb ?_
   refine uF rfl (bsx (bs rfl rfl rfl rfl rfl rfl rfl rfl) rfl) ?_
   refine wkb ?_
   refine aa H λr7 q7 H=>iS rfl (ca (hF:=eS q7)) ?_
   refine wkb ?_
   refine iS rfl (ir rfl rfl rfl (by decide)) ?_
   refine wkb ?_
   refine iS rfl (ir rfl rfl rfl (by decide)) ?_
   refine wkb ?_
   refine iS rfl (bs rfl rfl rfl rfl rfl rfl rfl rfl) ?_
   refine wkb ?_
   obtain⟨h,H⟩:=rq H
   refine uF rfl (H5 (enc:=eU8) (ys:=v2) (zs:=[IntKind.u8.wrap (abW (WR ((WR (x6))+(abW r7 256))) 256)]) [0,2] h) ?_
   refine wkb ?_
   refine mK (ds:=[0]) (by kernel_rfl) (by kernel_rfl) rfl ?_
   refine wI ?_
   cases H
   refine uQ ?_
   refine aq (wS 0 3) ?_
   exact wo
  exact aE H
 exact ao H
def lA (a0:dD) (a1:Int):Option Int:=
 abU (fa 29 [a0.dN,a0.bL,a1]) λr1=>some r1
theorem vB {a0:dD} (H:lA a0 a1=some r):Fn prog 315 [.agg (nT a0),aI a1] [.c (.d (.i .i64 r))]:=by
 refine fI func315 ntmps315 ?_
 refine aa H λr1 q1 H=>nA (ca (hF:=eS q1)) ?_
 exact ao H
def jh (a0:ab) (a1:Int) (a2:a9):Option ab:=
 abU (ix a0.av a1) λx1=>abU (lG {a0 with av:=(a0.av.set (a1).toNat a2.bk)} a1 true a2.db) λr2=>some r2
theorem o8 {a0:ab} {a2:a9} {r:ab} (H:jh a0 a1 a2=some r):FnV prog 263 (nS a0) [tP 200,tI a1,.v (.agg (kM [.t,.t,.t] (cf a2)))] (nS r) (.tup []) []:=by
 refine fV func263 ntmps263 ?_
 refine zI (hV 9) ?_
 refine aa H λx1 hx1 H=>zA (qy hx1) ?_
 refine zB (lI 190 (hne:=yH (enc:=cS) hx1)) (gG rfl (soT (enc:=cS) (a':=a2.bk) hx1)) b8 ?_
 refine aa H λr2 q2 H=>bQ (ee 190) ?_
 refine bQ (wB 190 ((a0.av.set (a1).toNat a2.bk).length)) ?_
 refine sA (cwu m0 [] 211 (uY q2)) ?_
 cases H
 exact mn
def EE (r5:cR×List Int):(Int×List aD)->Option (cq (Int×List aD) (List aD))
 |(v6,v7)=>bif ltB v6 (r5.2.length:Int) then(abU (ix r5.2 v6) λx10=>bif c8 88 (v7++[{dQ with a8:=7,be:=x10}]).length then(some (.next (WR (v6+1),(v7++[{dQ with a8:=7,be:=x10}])))) else none) else(some (.done v7))
def zr (a0:ah) (a1:am) (a2:aS):Option bZ:=
 abU (s8 a0 a1) λr1=>abU (dB a0.be 0 (WR ((a2.aX.length:Int)-1))) λr2=>abU (bif r2 then(abU (ix a2.aX a0.be) λx4=>some x4.fJ) else(some 0)) λ(v3:Int)=>abU (ud {a0.ge with fJ:=v3} a2) λr5=>abU (iter (EE r5) FU (0,r1.kF)) λ(v9:List aD)=>some {r1 with aZ:={r1.aZ with ge:=r5.1},kF:=v9}
theorem HJ {a0:ah} {a1:am} {a2:aS} {r:bZ} (H:zr a0 a1 a2=some r):Fn prog 323 [.agg (bU a0),.agg (cN a1),.agg (iw a2)] [.agg (qM [.o,.o,.o,.o,.o,.o] (cY r))]:=by
 refine fI func323 ntmps323 ?_
 refine aa H λr1 q1 H=>nA (ca (hF:=Br q1)) ?_
 refine aa H λr2 q2 H=>nA (ca (hF:=cm q2)) ?_
 refine aa H λv3 Hj H=>jA ⟨[(5,tP 2),(6,tP 3),(7,tP 10),(8,tP 11)],(oM [.w 4,.w 5,.w 6,.w 7,.w 8,.w 9] 10 195 (cY r1)++[(2,.var 26 [.d false (.l (a2.aX.map dy))]),(3,.var 195 (kM [.z,.z,.z,.z,.z,.z] (cY dw))),(11,.var 67 (kM [] (ml {a0.ge with fJ:=v3})))]),12⟩ ?_ ?_
 .refine cC Hj ?_ ?_<;>intro H
  .refine aa H λx4 hx4 H=>nA (xdT (enc:=dy) hx4) ?_
   exact ai H
  exact ai H
 refine aa H λr5 q5 H=>nA (ca (hF:=IB q5)) ?_
 refine aa H λv9 Hj H=>jB ⟨[(6,tP 3),(7,tP 10)],(oM [.w 4,.w 5,.w 6,.w 7,.w 8,.w 9] 10 195 (cY {r1 with aZ:={r1.aZ with ge:=r5.1},kF:=v9})++[(3,.var 195 (kM [.z,.z,.z,.z,.z,.z] (cY dw)))]),11⟩ ?_ ?_
 .refine iT Hj (λq=>⟨[(6,tP 3),(7,tP 10),(10,.v (.c (.w 12 r5.2.length))),(11,tI q.1)],(oM [.w 4,.w 5,.w 6,.w 7,.w 8,.w 9] 10 195 (cY {r1 with aZ:={r1.aZ with ge:=r5.1},kF:=q.2})++[(3,.var 195 (kM [.z,.z,.z,.z,.z,.z] (cY dw))),(12,w3 r5.2)]),13⟩) ?_
  rintro⟨v6,v7⟩ o H
  refine ad ?_
  refine cC H ?_ ?_<;>intro H
  .refine zI (hV 11) ?_
   refine aa H λx10 hx10 H=>zA (xwT hx10) ?_
   refine zA (oe (he:=f7 _ hx10)) ?_
   obtain⟨h,H⟩:=rq H
   refine zB b8 (gG rfl (apT (enc:=c9) (ys:=v7) (zs:=[{dQ with a8:=7,be:=x10}]) h)) b8 ?_
   refine wA (spx 100358) ?_
   exact aN H
  exact aE H
 exact ao H
def rG (a0:ah) (a1:am) (a2:Int):Option (ah×am):=
 abU (ja a0) λr1=>abU (oR a0 a2) λr2=>bif leB r2 0 then(abU (mG a1) λr3=>some (r1,r3)) else(abU (Hi r2 a0.gF.eg) λr4=>abU (pX a1 a0.bT r4) λr5=>some ({r1 with bT:=r5.2},r5.1))
theorem Hh {a0:ah} {a1:am} {a2:Int} {r:ah×am} (H:rG a0 a1 a2=some r):Fn prog 348 [.agg (bU a0),.agg (cN a1),aI a2] [.agg (qM [.o,.o,.o] (ct r.1)),.agg (qM [.o] (cZ r.2))]:=by
 refine fI func348 ntmps348 ?_
 refine aa H λr1 q1 H=>nA (ca (hF:=iK q1)) ?_
 refine aa H λr2 q2 H=>nA (ca (hF:=y8 q2)) ?_
 refine cC H ?_ ?_<;>intro H
 .refine zI (hV 5) ?_
  refine aa H λr3 q3 H=>zA (ca (hF:=nm q3)) ?_
  refine wA (spx 100374) ?_
  refine wA (spx 100373) ?_
  exact ao H
 refine zI (hV 16) ?_
 refine aa H λr4 q4 H=>zA (ca (hF:=DL q4)) ?_
 refine aa H λr5 q5 H=>zA (ca (hF:=E8 q5)) ?_
 refine wA (spx 100378) ?_
 refine wA (spx 100377) ?_
 refine zI (hV 4) ?_
 refine wA (spx 100376) ?_
 refine wA (spx 100375) ?_
 exact ao H
def yY (a0:Int) (a1:List Int):(Int×List Int)->Option (cq (Int×List Int) (List Int))
 |(v1,v2)=>bif ltB v1 (a1.length:Int) then(abU (ix a1 v1) λx7=>abU (fa a0 [v1]) λr8=>abU (Iw (WR ((WR (x7))-(abW r8 256))) 256) λr9=>bif c8 1 (v2++[IntKind.u8.wrap (r9)]).length then(some (.next (WR (v1+1),(v2++[IntKind.u8.wrap (r9)])))) else none) else(some (.done v2))
def Cr (a0:Int) (a1:List Int):Option (List Int):=
 abU (iter (yY a0 a1) FU (0,([]:List Int))) λ(v6:List Int)=>some v6
theorem OL {a1:List Int} {r:List Int} (H:Cr a0 a1=some r):Fn prog 378 [aI a0,aL (a1.map eU8)] [.c (.own 5 1 (r.map eU8) r.length)]:=by
 refine fI func378 ntmps378 ?_
 refine aa H λv6 Hj H=>jB ⟨[(5,.v (.c (.w 0 v6.length)))],[(0,w5 v6)],1⟩ ?_ ?_
 .refine iT Hj (λq=>⟨[(0,tI a0),(1,.v (.c (.d false (.l (a1.map eU8))))),(5,.v (.c (.w 0 q.2.length))),(6,tI q.1)],[(0,w5 q.2)],1⟩) ?_
  rintro⟨v1,v2⟩ o H
  refine ad ?_
  refine cC H ?_ ?_<;>intro H
  .refine nO [0,1,2,3,4,5,6,7,8,9,10,11,12,13,14,15,16] (h:=?_)
   refine wkb ?_
   refine aa H λx7 hx7 H=>iS rfl (xdT (enc:=eU8) hx7) ?_
   refine wkb ?_
   refine uF rfl (bsx (bs rfl rfl rfl rfl rfl rfl rfl rfl) rfl) ?_
   refine wkb ?_
   refine aa H λr8 q8 H=>iS rfl (ca (hF:=eS q8)) ?_
   refine wkb ?_
   refine iS rfl (ir rfl rfl rfl (by decide)) ?_
   refine wkb ?_
   refine aa H λr9 q9 H=>iS rfl (ca (hF:=Bh q9)) ?_
   refine wkb ?_
   refine iS rfl (bs rfl rfl rfl rfl rfl rfl rfl rfl) ?_
   refine wkb ?_
   obtain⟨h,H⟩:=rq H
   refine uF rfl (H5 (enc:=eU8) (ys:=v2) (zs:=[IntKind.u8.wrap (r9)]) [0,2] h) ?_
   refine wkb ?_
   refine mK (ds:=[0]) (by kernel_rfl) (by kernel_rfl) rfl ?_
   refine wI ?_
   cases H
   refine uQ ?_
   refine aq (wS 0 3) ?_
   exact wo
  exact aE H
 exact ao H
def rJ (a0:Int) (a1:Int) (a2:Int):Option Int:=
 abU (dB a2 0 999999) λr1=>bif !r1 then(some (-1)) else(abU (fa a0 [5,a1,a2]) λr2=>abU (Iw r2 1000) λr3=>some (WR ((WR (1000000*r3))+a2)))
theorem Hq {a2:Int} (H:rJ a0 a1 a2=some r):Fn prog 379 [aI a0,aI a1,aI a2] [.c (.d (.i .i64 r))]:=by
 refine fI func379 ntmps379 ?_
 refine aa H λr1 q1 H=>nA (ca (hF:=cm q1)) ?_
 refine cC H ?_ ?_<;>intro H
 .exact ao H
 refine aa H λr2 q2 H=>nA (ca (hF:=eS q2)) ?_
 refine aa H λr3 q3 H=>nA (ca (hF:=Bh q3)) ?_
 exact ao H
def i7 (a0:Int) (a1:Int):Option Int:=
 abU (fa 17 [a0,a1]) λr1=>some (abW (WR (r1*r1)) 2147483647)
theorem qY (H:i7 a0 a1=some r):Fn prog 330 [aI a0,aI a1] [.c (.d (.i .i64 r))]:=by
 refine fI func330 ntmps330 ?_
 refine aa H λr1 q1 H=>nA (ca (hF:=eS q1)) ?_
 refine nA (ir rfl rfl rfl (by decide)) ?_
 exact ao H
end Go.AM
