/- A part. -/
import Derived.Test.YtbfpkbncbebapaaGreatS7
set_option linter.unusedVariables false
open Option renaming bind->YL
namespace Go.AM
open Go.Proofs
open Tryz
attribute [local irreducible] AWN NS AWO AWR AWC DR dQ gQ
set_option maxRecDepth 100000
set_option maxHeartbeats 40000000
def EE (v20:Int):(Int×List ah×aT)->Option (cf (Int×List ah×aT) (List ah×aT))
 |(v118,v122,v123)=>bif ltB 0 v118 then(YL (ix v122 v20) λx134=>YL (co v123 4) λr135=>YL (wL r135.2 r135.1) λr136=>YL (lv x134 r136.1) λr137=>YL (ix v122 v20) λx138=>some (.next (WR (v118-1),(v122.set (v20).toNat r137.1),r136.2))) else(some (.done (v122,v123)))
def qW (v20:Int) (r152:bh):(Int×ab)->Option (cf (Int×ab) (ab))
 |(v154,v165)=>bif ltB v154 (r152.dX.length:Int) then(YL (ix r152.dX v154) λx180=>YL (ix r152.dX v154) λx181=>YL (fC v165 (⟨v20,true,false,x180.bg,x181,eC⟩:bD)) λr182=>some (.next (WR (v154+1),r182))) else(some (.done v165))
def ED:(Int×aT×ab)->Option (cf (Int×aT×ab) (aT×ab))
 |(v20,v34,v35)=>bif ltB v20 (v35.an.length:Int) then(YL (co v34 7) λr117=>YL (iter (EE v20) FU (r117.1,v35.aj,r117.2)) λ((v132,v133):List ah×aT)=>YL (im v133 5) λr139=>YL (bif !r139.1 then(YL (ix v35.an v20) λx151=>YL (wv x151) λr152=>YL (ix v35.an v20) λx153=>YL (iter (qW v20 r152) FU (0,{v35 with an:=(v35.an.set (v20).toNat r152.bv),aj:=v132})) λ(v179:ab)=>some v179) else(some {v35 with aj:=v132})) λ(v150:ab)=>some (.next (WR (v20+1),r139.2,v150))) else(some (.done (v34,v35)))
def Ay (a0:aT):Option (ab×aT):=
 YL (At a0) λr1=>YL (YL (An r1.2) λr16=>YL (lK r16.2) λr17=>YL (co r17.2 60) λr18=>YL (rZ r16.1 r17.1 r1.1 (WR (30+r18.1))) λr19=>some (r19.cZ,r19.oZ,r19.kT,r19.bi,r19.aj,r19.an,r19.d8.aR,r18.2,r19.cq)) λ((v5,v8,v9,v10,v11,v12,v13,v14,v15):Int×Int×Int×List am×List ah×List aD×List eH×aT×a8)=>YL (iter (ED) FU (0,v14,(⟨(⟨v13⟩:aM),v12,v11,v10,([]:List bD),v5,v15,v8,v9⟩:ab))) λ((v115,v116):aT×ab)=>some (v116,v115)
theorem Pe {a0:aT} {r:ab×aT} (H:Ay a0=some r):FnV prog 70 [(200,.var 148 (kM [.f] (bS a0)))] [tP 200] [(200,.var 148 (kM [.f] (bS r.2)))] (.v (.agg (kM [.t,.n 210,.n 211,.n 212,.n 213] (aJ r.1)))) [(210,n86 r.1.an),(211,n69 r.1.aj),(212,n89 r.1.bi),(213,n48 r.1.aN)]:=by
 refine fV func70 ntmps70 ?_
 refine aa H λr1 q1 H=>sA (cwv [(200,200)] [(210,211)] 212 (LV q1)) ?_
 refine wI ?_
 obtain⟨⟨v5,v8,v9,v10,v11,v12,v13,v14,v15⟩,Hj,H⟩:=ob H
 refine Tm ⟨[(0,tP 200),(2,tP 210),(4,tP 214)],(oM [.n 215,.n 216,.n 217,.n 218,.z] 214 34 (aJ (⟨(⟨v13⟩:aM),v12,v11,v10,[],v5,v15,v8,v9⟩:ab))++[(200,.var 148 (kM [.f] (bS v14))),(210,.var 34 (kM [.z,.z,.z,.z,.z] (aJ {dL with d8:=(⟨[]⟩:aM)})))]),219⟩ Try.follows ?_ ?_
 .have H:=Hj
  refine N5 8 9 rfl ?_ ?_
  .refine PN [0,1,2,3,4,5,6,7,9,8,10] (by kernel_rfl) (by kernel_rfl) rfl ?_
   refine wI ?_
   refine aa H λr16 q16 H=>wA (cwx (o:=200) (FnV.frzW (Es q16) rfl rfl ⟨by first|rfl|simp,trivial⟩ rfl)) ?_
   refine aa H λr17 q17 H=>wA (cwx (o:=200) (sJ q17)) ?_
   refine aa H λr18 q18 H=>wA (cwx (o:=200) (bU q18)) ?_
   refine aa H λr19 q19 H=>zB (ay (aU (o:=213)) (ay (cj (k:=16)) (eZ 211))) (hP rfl (cwv [] [(210,215),(211,216),(212,217),(213,218)] 219 (yg q19))) bW ?_
   refine wA (spx 100218) ?_
   exact ai H
  refine PN [0,1,2,3,4,5,6,7,8,9,10] (by kernel_rfl) (by kernel_rfl) rfl ?_
  refine wI ?_
  refine aa H λr16 q16 H=>wA (cwx (o:=200) (FnV.frzW (Es q16) rfl rfl ⟨by first|rfl|simp,trivial⟩ rfl)) ?_
  refine aa H λr17 q17 H=>wA (cwx (o:=200) (sJ q17)) ?_
  refine aa H λr18 q18 H=>wA (cwx (o:=200) (bU q18)) ?_
  refine aa H λr19 q19 H=>zB (ay (aU (o:=213)) (ay (cj (k:=16)) (eZ 211))) (hP rfl (cwv [] [(210,214),(211,215),(212,216),(213,217)] 218 (yg q19))) bW ?_
  refine wA (spx 100219) ?_
  cases H
  refine ay (wS 214 218) ?_
  refine ay (wS 215 218) ?_
  refine ay (wS 216 218) ?_
  refine ay (wS 217 218) ?_
  exact wo
 refine wI ?_
 obtain⟨⟨v115,v116⟩,Hj,H⟩:=ob H
 refine jB ⟨[(2,tP 210),(4,tP 214)],(oM [.t,.n 216,.n 217,.n 218,.n 219] 214 34 (aJ v116)++[(200,.var 148 (kM [.f] (bS v115))),(210,.var 34 (kM [.z,.z,.z,.z,.z] (aJ {dL with d8:=(⟨[]⟩:aM)})))]),220⟩ ?_ ?_
 .refine iT Hj (λq=>⟨[(0,tP 200),(2,tP 210),(4,tP 214),(5,tI q.1)],(oM [.t,.n 216,.n 217,.n 218,.n 219] 214 34 (aJ q.2.2)++[(200,.var 148 (kM [.f] (bS q.2.1))),(210,.var 34 (kM [.z,.z,.z,.z,.z] (aJ {dL with d8:=(⟨[]⟩:aM)})))]),220⟩) ?_ (by refine ay (eZ 215) ?_;refine ay (dE (o:=214) (j:=4) 48 21 true) ?_;refine ay (wB 219 (([]:List bD).length)) ?_;exact wo)
  rintro⟨v20,v34,v35⟩ o H
  try dsimp only
  refine wI ?_
  refine cC H ?_ ?_<;>intro H
  .refine aa H λr117 q117 H=>sA (cw (o:=200) (bU q117)) ?_
   obtain⟨⟨v132,v133⟩,Hj,H⟩:=ob H
   refine jB ⟨[(0,tP 200),(2,tP 210),(4,tP 214),(5,tI v20)],(oM [.t,.n 216,.n 217,.n 218,.n 219] 214 34 (aJ {v35 with aj:=v132})++[(200,.var 148 (kM [.f] (bS v133))),(210,.var 34 (kM [.z,.z,.z,.z,.z] (aJ {dL with d8:=(⟨[]⟩:aM)})))]),220⟩ ?_ ?_
   .refine iT Hj (λq=>⟨[(0,tP 200),(2,tP 210),(4,tP 214),(5,tI v20),(6,tI q.1)],(oM [.t,.n 216,.n 217,.n 218,.n 219] 214 34 (aJ {v35 with aj:=q.2.1})++[(200,.var 148 (kM [.f] (bS q.2.2))),(210,.var 34 (kM [.z,.z,.z,.z,.z] (aJ {dL with d8:=(⟨[]⟩:aM)})))]),220⟩) ?_
    rintro⟨v118,v122,v123⟩ o H
    try dsimp only
    refine wI ?_
    refine cC H ?_ ?_<;>intro H
    .refine zI (List.range 16) ?_
     refine aa H λx134 hx134 H=>zA (oY hx134) ?_
     refine zA (HG (he:=gm _ hx134)) ?_
     refine aa H λr135 q135 H=>wA (cwx (o:=200) (bU q135)) ?_
     refine aa H λr136 q136 H=>wA (cwx (o:=200) (Et q136)) ?_
     refine aa H λr137 q137 H=>zA (ca (hF:=vb q137)) ?_
     refine wA (spx 100243) ?_
     refine aa H λx138 hx138 H=>bH (kw 217 (hne:=vT (enc:=bB) hx138)) ?_
     refine nA (xwT hx138) ?_
     refine bH (aU (o:=221)) ?_
     refine bH (aU (o:=222)) ?_
     refine bH (aU (o:=223)) ?_
     refine bH (cj (k:=51)) ?_
     refine sA (soT (enc:=bB) (a':=r137.1) hx138) ?_
     cases H
     refine dy ?_
     refine ay (dS 217) ?_
     refine ay (wB 217 ((v122.set (v20).toNat r137.1).length)) ?_
     exact wo
    cases H
    refine dF (λhq=>?_)
    cases hq
    refine wI ?_
    exact wo
   refine aa H λr139 q139 H=>sA (cw (o:=200) (ia q139)) ?_
   refine aa H λv150 Hj H=>jA ⟨[(0,tP 200),(2,tP 210),(4,tP 214),(5,tI v20)],(oM [.t,.n 216,.n 217,.n 218,.n 219] 214 34 (aJ v150)++[(200,.var 148 (kM [.f] (bS r139.2))),(210,.var 34 (kM [.z,.z,.z,.z,.z] (aJ {dL with d8:=(⟨[]⟩:aM)})))]),220⟩ ?_ ?_
   .refine cC Hj ?_ ?_<;>intro H
    .refine aa H λx151 hx151 H=>bH (kw 216 (hne:=vT (enc:=cI) hx151)) ?_
     refine nA (xwT hx151) ?_
     refine nA (oea (he:=gm _ hx151)) ?_
     refine aa H λr152 q152 H=>nA (ca (hF:=Eb q152)) ?_
     refine aa H λx153 hx153 H=>nA (xwT hx153) ?_
     refine sA (soT (enc:=cI) (a':=r152.bv) hx153) ?_
     refine aa H λv179 Hj H=>jB ⟨[(0,tP 200),(2,tP 210),(4,tP 214),(5,tI v20)],(oM [.t,.n 216,.n 217,.n 218,.n 219] 214 34 (aJ v179)++[(200,.var 148 (kM [.f] (bS r139.2))),(210,.var 34 (kM [.z,.z,.z,.z,.z] (aJ {dL with d8:=(⟨[]⟩:aM)})))]),220⟩ ?_ ?_
     .refine iT Hj (λq=>⟨[(0,tP 200),(2,tP 210),(4,tP 214),(5,tI v20),(9,tP 221),(10,tI q.1)],(oM [.t,.n 216,.n 217,.n 218,.n 219] 214 34 (aJ q.2)++(oM [.t,.t,.w 220] 221 181 (cL r152)++[(200,.var 148 (kM [.f] (bS r139.2))),(210,.var 34 (kM [.z,.z,.z,.z,.z] (aJ {dL with d8:=(⟨[]⟩:aM)})))])),222⟩) ?_ (by refine ay (dS 216) ?_;refine ay (wB 216 ((v35.an.set (v20).toNat r152.bv).length)) ?_;exact wo)
      rintro⟨v154,v165⟩ o H
      try dsimp only
      refine wI ?_
      refine cC H ?_ ?_<;>intro H
      .refine zI (List.range 14) ?_
       refine aa H λx180 hx180 H=>zA (xwT hx180) ?_
       refine zA (oe (he:=gm _ hx180)) ?_
       refine aa H λx181 hx181 H=>zA (xwT hx181) ?_
       refine zA (oea (he:=gm _ hx181)) ?_
       refine aa H λr182 q182 H=>zB bW (hP rfl (cwu [(190,216),(191,217),(192,218),(193,219),(200,214)] [] 222 (qX q182))) bW ?_
       cases H
       refine dy ?_
       exact wo
      cases H
      refine dF (λhq=>?_)
      cases hq
      refine wI ?_
      exact wo
     exact ai H
    exact ai H
   cases H
   refine dy ?_
   exact wo
  cases H
  refine dF (λhq=>?_)
  cases hq
  refine wI ?_
  exact wo
 cases H
 refine bV (wS 216 210) ?_
 refine bV (wS 217 211) ?_
 refine bV (wS 218 212) ?_
 refine bV (wS 219 213) ?_
 exact bO
def uM (a0:ab) (a1:Int):Option Bool:=
 YL (ix a0.an a1) λx1=>YL (ix a0.aj a1) λx2=>YL (mT x1) λr3=>YL (bif !r3 then(some true) else(YL (jt x2) λr5=>bif !r5 then(some true) else(YL (ix a0.bi a1) λx6=>YL (gr x6) λr7=>bif !r7 then(some true) else(bif !(eqB x1.c9.ID.du x2.bC.ID.du&&(eqB x1.c9.ID.bK x2.bC.ID.bK&&true)) then(some true) else(some (!eqB x1.c9.eP x2.bC.eP)))))) λ(v4:Bool)=>bif v4 then(some false) else(YL (bif ltB x1.bg (a0.d8.aR.length:Int) then(bif ltB x2.bg (a0.d8.aR.length:Int) then(bif eqB x2.bM.ax a1 then(YL (ix a0.bi a1) λx9=>YL (eY x9 x2.bM) λr10=>some r10) else(some false)) else(some false)) else(some false)) λ(v8:Bool)=>some v8)
theorem Ic {a0:ab} {a1:Int} {r:Bool} (H:uM a0 a1=some r):Fn prog 134 [.agg (eD a0),aI a1] [.c (.d (.b r))]:=by
 refine fI func134 ntmps134 ?_
 refine aa H λx1 hx1 H=>nA (xdT (enc:=cI) hx1) ?_
 refine aa H λx2 hx2 H=>nA (xdT (enc:=bB) hx2) ?_
 refine aa H λr3 q3 H=>nA (ca (hF:=Bc q3)) ?_
 refine aa H λv4 Hj H=>jR ⟨[(1,tI a1),(2,tP 0),(5,tP 1),(6,tP 2),(51,tB v4)],[(0,.var 34 (kM [.f,.f,.f,.f,.f] (aJ a0))),(1,.var 86 (kM [.f,.f] (db x1))),(2,.var 69 (kM [.f,.f,.f] (b8 x2)))],3⟩ ?_ ?_
 .refine gC Hj ?_ ?_<;>intro H
  .exact ai H
  refine aa H λr5 q5 H=>nG (ca (hF:=rW q5)) ?_
  refine gC H ?_ ?_<;>intro H
  .exact ai H
  refine aa H λx6 hx6 H=>nG (xdT (enc:=cp) hx6) ?_
  refine aa H λr7 q7 H=>nG (ca (hF:=jU q7)) ?_
  refine gC H ?_ ?_<;>intro H
  .exact ai H
  refine gC H ?_ ?_<;>intro H
  .exact ai H
  exact ai H
 refine cC H ?_ ?_<;>intro H
 .exact ao H
 refine dI ?_
 refine aa H λv8 Hj H=>et ⟨[(4,tB v8)],[],0⟩ ?_ ?_
 .have H:=Hj
  refine wI ?_
  refine dC H ?_ ?_<;>intro H
  .refine dC H ?_ ?_<;>intro H
   .refine dC H ?_ ?_<;>intro H
    .refine aa H λx9 hx9 H=>dG (xdT (enc:=cp) hx9) ?_
     refine aa H λr10 q10 H=>dG (ca (hF:=jf q10)) ?_
     refine wI ?_
     exact ai H
    refine wI ?_
    exact ai H
   refine wI ?_
   exact ai H
  refine wI ?_
  exact ai H
 refine wI ?_
 exact ao H
def qO (a0:Int) (a1:bw):Option Bool:=
 YL (Bt a0 a1) λr1=>some (eqB a1.iZ r1)
theorem Ag {a0:Int} {a1:bw} {r:Bool} (H:qO a0 a1=some r):Fn prog 168 [aI a0,.agg (eE a1)] [.c (.d (.b r))]:=by
 refine fI func168 ntmps168 ?_
 refine dI ?_
 refine aa H λr1 q1 H=>dA (ca (hF:=Kq q1)) ?_
 refine wI ?_
 exact ao H
def kr (a1:jk):(Int×Int)->Option (cf (Int×Int) (Int))
 |(v1,v2)=>bif ltB v2 (a1.Steps.length:Int) then(YL (ix a1.Steps v2) λx6=>YL (n8 v1 x6) λr7=>some (.next (r7,WR (v2+1)))) else(some (.done v1))
def oP (a0:Int) (a1:jk):Option Int:=
 YL (iter (kr a1) FU (a0,0)) λ(v5:Int)=>some v5
theorem yf {a0:Int} {a1:jk} {r:Int} (H:oP a0 a1=some r):Fn prog 248 [aI a0,.agg (Oh a1)] [.c (.d (.i .i64 r))]:=by
 refine fI func248 ntmps248 ?_
 refine aa H λv5 Hj H=>jB ⟨[(5,tI v5)],[],0⟩ ?_ ?_
 .refine iT Hj (λq=>⟨[(3,tP 0),(5,tI q.1),(6,tI q.2)],[(0,.var 202 [.d false (.l (a1.Steps.map eI))])],1⟩) ?_
  rintro⟨v1,v2⟩ o H
  try dsimp only
  refine wI ?_
  refine cC H ?_ ?_<;>intro H
  .refine aa H λx6 hx6 H=>nA (xdT (enc:=eI) hx6) ?_
   refine aa H λr7 q7 H=>nA (ca (hF:=uA q7)) ?_
   cases H
   refine dy ?_
   exact wo
  cases H
  refine dF (λhq=>?_)
  cases hq
  refine wI ?_
  exact wo
 exact ao H
def jv (a0:Int) (a1:Int) (a2:Int):Option Int:=
 YL (Fp a2 1000000) λr1=>YL (lr a0 a1) λr2=>YL (Fp (WR (r1-r2)) 1000000) λr3=>some r3
theorem sr {a0:Int} {a1:Int} {a2:Int} {r:Int} (H:jv a0 a1 a2=some r):Fn prog 251 [aI a0,aI a1,aI a2] [.c (.d (.i .i64 r))]:=by
 refine fI func251 ntmps251 ?_
 refine aa H λr1 q1 H=>nA (ca (hF:=yL q1)) ?_
 refine aa H λr2 q2 H=>nA (ca (hF:=va q2)) ?_
 refine aa H λr3 q3 H=>nA (ca (hF:=yL q3)) ?_
 exact ao H
def Ed (a0:Int) (a1:Int) (a2:Int) (a3:List Int):Option bw:=
 YL (n8 a0 (WR ((WR (2*a2))+a1))) λr1=>YL (z8 r1 a3) λr2=>YL (Bt a0 (⟨a1,a2,r2,0⟩:bw)) λr3=>some (⟨a1,a2,r2,r3⟩:bw)
theorem LI {a0:Int} {a1:Int} {a2:Int} {a3:List Int} {r:bw} (H:Ed a0 a1 a2 a3=some r):Fn prog 334 [aI a0,aI a1,aI a2,aL (a3.map eU8)] [.agg (qM [.o] (nL r))]:=by
 refine fI func334 ntmps334 ?_
 refine aa H λr1 q1 H=>nA (ca (hF:=uA q1)) ?_
 refine aa H λr2 q2 H=>nA (ca (hF:=LG q2)) ?_
 refine aa H λr3 q3 H=>nA (ca (hF:=Kq q3)) ?_
 exact ao H
def gV (a0:Int) (a1:Int) (a2:Int):Option cX:=
 YL (cO a2 0 999999) λr1=>bif !r1 then(some cz) else(YL (lr a0 a1) λr2=>YL (Fp (WR (a2+r2)) 1000000) λr3=>YL (eA a0 [2,a1,a2]) λr4=>YL (eA a0 [3,a1]) λr5=>YL (eA a0 [4,a1,a2]) λr6=>YL (D9 1 r6) λr7=>some (⟨a1,r3,r4,r5,r7⟩:cX))
theorem kJ {a0:Int} {a1:Int} {a2:Int} {r:cX} (H:gV a0 a1 a2=some r):Fn prog 335 [aI a0,aI a1,aI a2] [.agg (qM [] (fm r))]:=by
 refine fI func335 ntmps335 ?_
 refine aa H λr1 q1 H=>nA (ca (hF:=bT q1)) ?_
 refine cC H ?_ ?_<;>intro H
 .exact ao H
 refine aa H λr2 q2 H=>nA (ca (hF:=va q2)) ?_
 refine aa H λr3 q3 H=>nA (ca (hF:=yL q3)) ?_
 refine aa H λr4 q4 H=>nA (ca (hF:=eu q4)) ?_
 refine aa H λr5 q5 H=>nA (ca (hF:=eu q5)) ?_
 refine aa H λr6 q6 H=>nA (ca (hF:=eu q6)) ?_
 refine aa H λr7 q7 H=>nA (ca (hF:=Be q7)) ?_
 exact ao H
def wO (a0:ah):Option Bool:=
 YL (bif !eqB a0.bu 1 then(some true) else(YL (jt a0) λr2=>some (!r2))) λ(v1:Bool)=>some v1
theorem Ez {a0:ah} {r:Bool} (H:wO a0=some r):Fn prog 341 [.agg (bB a0)] [.c (.d (.b r))]:=by
 refine fI func341 ntmps341 ?_
 refine aa H λv1 Hj H=>jR ⟨[(2,tB v1)],[],0⟩ ?_ ?_
 .refine gC Hj ?_ ?_<;>intro H
  .exact ai H
  refine aa H λr2 q2 H=>nG (ca (hF:=rW q2)) ?_
  exact ai H
 exact ao H
def wk (a0:Int) (a1:List Int):(Int×List Int)->Option (cf (Int×List Int) (List Int))
 |(v1,v2)=>bif ltB v1 (a1.length:Int) then(YL (ix a1 v1) λx7=>YL (eA a0 [v1]) λr8=>YL (Fp (WR ((WR (x7))-(Int.tmod r8 256))) 256) λr9=>bif dh 1 (v2++[IntKind.u8.wrap (r9)]).length then(some (.next (WR (v1+1),(v2++[IntKind.u8.wrap (r9)])))) else none) else(some (.done v2))
def z7 (a0:Int) (a1:List Int):Option (List Int):=
 YL (iter (wk a0 a1) FU (0,([]:List Int))) λ(v6:List Int)=>some v6
theorem LF {a0:Int} {a1:List Int} {r:List Int} (H:z7 a0 a1=some r):Fn prog 391 [aI a0,aL (a1.map eU8)] [.c (.own 5 1 (r.map eU8) r.length)]:=by
 refine fI func391 ntmps391 ?_
 refine aa H λv6 Hj H=>jB ⟨[(5,.v (.c (.w 0 v6.length)))],[(0,w5 v6)],1⟩ ?_ ?_
 .refine iT Hj (λq=>⟨[(0,tI a0),(1,.v (.c (.d false (.l (a1.map eU8))))),(5,.v (.c (.w 0 q.2.length))),(6,tI q.1)],[(0,w5 q.2)],1⟩) ?_
  rintro⟨v1,v2⟩ o H
  try dsimp only
  refine wI ?_
  refine cC H ?_ ?_<;>intro H
  .refine ua [0,1,2,3,4,5,6,7,8,9,10,11,12,13,14,15,16] (h:=?_)
   refine wkb ?_
   refine aa H λx7 hx7 H=>lM rfl (xdT (enc:=eU8) hx7) ?_
   refine wkb ?_
   refine B5 rfl (bsx (bs rfl rfl rfl rfl rfl rfl rfl rfl) rfl) ?_
   refine wkb ?_
   refine aa H λr8 q8 H=>lM rfl (ca (hF:=eu q8)) ?_
   refine wkb ?_
   refine lM rfl (ir rfl rfl rfl (by decide)) ?_
   refine wkb ?_
   refine aa H λr9 q9 H=>lM rfl (ca (hF:=yL q9)) ?_
   refine wkb ?_
   refine lM rfl (bs rfl rfl rfl rfl rfl rfl rfl rfl) ?_
   refine wkb ?_
   obtain⟨h,H⟩:=rq H
   refine B5 rfl (EU (enc:=eU8) (ys:=v2) (zs:=[IntKind.u8.wrap (r9)]) [0,2] h) ?_
   refine wkb ?_
   refine lD (ds:=[0]) (by kernel_rfl) (by kernel_rfl) rfl ?_
   refine wI ?_
   cases H
   refine dy ?_
   refine ay (wS 0 3) ?_
   exact wo
  cases H
  refine dF (λhq=>?_)
  cases hq
  refine wI ?_
  exact wo
 exact ao H
def pZ (a0:Int) (a1:Int) (a2:Int):Option Int:=
 YL (cO a2 0 999999) λr1=>bif !r1 then(some (-1)) else(YL (eA a0 [5,a1,a2]) λr2=>YL (Fp r2 1000) λr3=>some (WR ((WR (1000000*r3))+a2)))
theorem Ef {a0:Int} {a1:Int} {a2:Int} {r:Int} (H:pZ a0 a1 a2=some r):Fn prog 392 [aI a0,aI a1,aI a2] [.c (.d (.i .i64 r))]:=by
 refine fI func392 ntmps392 ?_
 refine aa H λr1 q1 H=>nA (ca (hF:=bT q1)) ?_
 refine cC H ?_ ?_<;>intro H
 .exact ao H
 refine aa H λr2 q2 H=>nA (ca (hF:=eu q2)) ?_
 refine aa H λr3 q3 H=>nA (ca (hF:=yL q3)) ?_
 exact ao H
def il (a0:Int) (a1:Int):Option Int:=
 YL (eA 17 [a0,a1]) λr1=>some (Int.tmod (WR (r1*r1)) 2147483647)
theorem pA {a0:Int} {a1:Int} {r:Int} (H:il a0 a1=some r):Fn prog 121 [aI a0,aI a1] [.c (.d (.i .i64 r))]:=by
 refine fI func121 ntmps121 ?_
 refine aa H λr1 q1 H=>nA (ca (hF:=eu q1)) ?_
 refine nA (ir rfl rfl rfl (by decide)) ?_
 exact ao H
end Go.AM
