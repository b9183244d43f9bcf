/- A part. -/
import Derived.Test.YtbfpkbncbebapaaGreatS12
set_option linter.unusedVariables false
open Option renaming bind->YL
namespace Go.AM
open Go.Proofs
open Tryz
attribute [local irreducible] AWN NS AWO AWR AWC DR dQ gQ
set_option maxRecDepth 100000
set_option maxHeartbeats 40000000
def p4 (a0:ah) (a1:am) (a2:aM):Option bY:=
 YL (wO a0) λr1=>bif r1 then(YL (qU a0 a1) λr2=>some r2) else(YL (ip a0) λr3=>bif leB r3.g7.eg r3.bM.ed then(YL (pY a1 r3.bM) λr7=>YL (bif ltB 0 (r3.aw.az.length:Int) then(YL (yK 5 (WR (r3.d9+1))) λr9=>some r9) else(some 0)) λ(v8:Int)=>bif ltB 4 v8 then(YL (wP {r3 with d9:=v8,bM:=r7.2} r7.1 a2) λr10=>some r10) else(YL (bif ltB 0 (r3.aw.az.length:Int) then(some (ltB 0 r3.d7)) else(some false)) λ(v11:Bool)=>YL (bif v11 then(some (([]:List aC),WR (r3.d7-1))) else(YL (bif ltB 0 (r3.aw.az.length:Int) then(YL (ma {r3 with d9:=v8,d7:=3,bM:=r7.2}) λr16=>some (r16,3)) else(some (([]:List aC),r3.d7))) λ((v14,v15):List aC×Int)=>some (v14,v15))) λ((v12,v13):List aC×Int)=>YL (wC {r3 with d9:=v8,d7:=v13,bM:=r7.2} r7.1) λr17=>bif dh 64 (v12++r17.cr).length then(some {r17 with cr:=(v12++r17.cr)}) else none)) else(YL (bif ltB 0 (r3.aw.az.length:Int) then(YL (yK 5 (WR (r3.d9+1))) λr19=>some r19) else(some 0)) λ(v18:Int)=>bif ltB 4 v18 then(YL (wP {r3 with d9:=v18} a1 a2) λr20=>some r20) else(YL (bif ltB 0 (r3.aw.az.length:Int) then(some (ltB 0 r3.d7)) else(some false)) λ(v21:Bool)=>YL (bif v21 then(some (([]:List aC),WR (r3.d7-1))) else(YL (bif ltB 0 (r3.aw.az.length:Int) then(YL (ma {r3 with d9:=v18,d7:=3}) λr26=>some (r26,3)) else(some (([]:List aC),r3.d7))) λ((v24,v25):List aC×Int)=>some (v24,v25))) λ((v22,v23):List aC×Int)=>YL (wC {r3 with d9:=v18,d7:=v23} a1) λr27=>bif dh 64 (v22++r27.cr).length then(some {r27 with cr:=(v22++r27.cr)}) else none)))
theorem Ek {a0:ah} {a1:am} {a2:aM} {r:bY} (H:p4 a0 a1 a2=some r):Fn prog 299 [.agg (bB a0),.agg (cp a1),.agg (gI a2)] [.agg (qM [.o,.o,.o,.o,.o,.o] (cB r))]:=by
 refine fI func299 ntmps299 ?_
 refine aa H λr1 q1 H=>nA (ca (hF:=Ez q1)) ?_
 refine cC H ?_ ?_<;>intro H
 .refine aa H λr2 q2 H=>nA (ca (hF:=yX q2)) ?_
  exact ao H
 refine aa H λr3 q3 H=>nA (ca (hF:=gW q3)) ?_
 refine cC H ?_ ?_<;>intro H
 .refine aa H λr7 q7 H=>nA (ca (hF:=Ee q7)) ?_
  refine aa H λv8 Hj H=>jA ⟨[(3,tP 0),(4,tP 1),(5,tP 2),(6,tP 3),(9,tB (ltB 0 (r3.aw.az.length:Int)))],(oM [.w 4,.w 5,.w 6] 0 69 (b8 {r3 with d9:=v8,bM:=r7.2})++(oM [.w 7] 1 89 (cG r7.1)++[(2,.var 26 [.d false (.l (a2.aR.map cQ))]),(3,.var 188 (kM [.z,.z,.z,.z,.z,.z] (cB dr)))])),8⟩ ?_ ?_
  .refine cC Hj ?_ ?_<;>intro H
   .refine aa H λr9 q9 H=>nA (ca (hF:=wu q9)) ?_
    exact ai H
   exact ai H
  refine cC H ?_ ?_<;>intro H
  .refine aa H λr10 q10 H=>nA (ca (hF:=EA q10)) ?_
   exact ao H
  refine aa H λv11 Hj H=>jR ⟨[(3,tP 0),(4,tP 1),(6,tP 3),(9,tB (ltB 0 (r3.aw.az.length:Int))),(10,.v (.c (.w 8 (([]:List aC).length)))),(61,tB v11)],(oM [.w 4,.w 5,.w 6] 0 69 (b8 {r3 with d9:=v8,bM:=r7.2})++(oM [.w 7] 1 89 (cG r7.1)++[(3,.var 188 (kM [.z,.z,.z,.z,.z,.z] (cB dr))),(8,w46 ([]:List aC))])),9⟩ ?_ ?_
  .refine gC Hj ?_ ?_<;>intro H
   .exact ai H
   exact ai H
  obtain⟨⟨v12,v13⟩,Hj,H⟩:=ob H
  refine jA ⟨[(3,tP 0),(4,tP 1),(6,tP 3),(10,.v (.c (.w 8 v12.length)))],(oM [.w 4,.w 5,.w 6] 0 69 (b8 {r3 with d9:=v8,d7:=v13,bM:=r7.2})++(oM [.w 7] 1 89 (cG r7.1)++[(3,.var 188 (kM [.z,.z,.z,.z,.z,.z] (cB dr))),(8,w46 v12)])),9⟩ ?_ ?_
  .refine cC Hj ?_ ?_<;>intro H
   .exact ai H
   obtain⟨⟨v14,v15⟩,Hj,H⟩:=ob H
   refine jA ⟨[(3,tP 0),(4,tP 1),(6,tP 3),(10,.v (.c (.w 9 v14.length)))],(oM [.w 4,.w 5,.w 6] 0 69 (b8 {r3 with d9:=v8,d7:=v15,bM:=r7.2})++(oM [.w 7] 1 89 (cG r7.1)++[(3,.var 188 (kM [.z,.z,.z,.z,.z,.z] (cB dr))),(9,w46 v14)])),10⟩ ?_ ?_
   .refine cC Hj ?_ ?_<;>intro H
    .refine aa H λr16 q16 H=>nA (ca (hF:=yh q16)) ?_
     exact ai H
    cases H
    refine ay (AG (nx':=10) rfl) ?_
    refine ay (wS 9 8) ?_
    exact wo
   cases H
   refine ay (wS 8 9) ?_
   exact wo
  refine aa H λr17 q17 H=>nA (ca (hF:=Eg q17)) ?_
  obtain⟨h,H⟩:=rq H
  refine sA (apT (enc:=dR) (ys:=v12) (zs:=r17.cr) h) ?_
  exact ao H
 refine aa H λv18 Hj H=>jA ⟨[(3,tP 0),(4,tP 1),(5,tP 2),(6,tP 3),(9,tB (ltB 0 (r3.aw.az.length:Int)))],(oM [.w 4,.w 5,.w 6] 0 69 (b8 {r3 with d9:=v18})++[(1,.var 89 (kM [.f] (cG a1))),(2,.var 26 [.d false (.l (a2.aR.map cQ))]),(3,.var 188 (kM [.z,.z,.z,.z,.z,.z] (cB dr)))]),7⟩ ?_ ?_
 .refine cC Hj ?_ ?_<;>intro H
  .refine aa H λr19 q19 H=>nA (ca (hF:=wu q19)) ?_
   exact ai H
  exact ai H
 refine cC H ?_ ?_<;>intro H
 .refine aa H λr20 q20 H=>nA (ca (hF:=EA q20)) ?_
  exact ao H
 refine aa H λv21 Hj H=>jR ⟨[(3,tP 0),(4,tP 1),(6,tP 3),(9,tB (ltB 0 (r3.aw.az.length:Int))),(10,.v (.c (.w 7 (([]:List aC).length)))),(61,tB v21)],(oM [.w 4,.w 5,.w 6] 0 69 (b8 {r3 with d9:=v18})++[(1,.var 89 (kM [.f] (cG a1))),(3,.var 188 (kM [.z,.z,.z,.z,.z,.z] (cB dr))),(7,w46 ([]:List aC))]),8⟩ ?_ ?_
 .refine gC Hj ?_ ?_<;>intro H
  .exact ai H
  exact ai H
 obtain⟨⟨v22,v23⟩,Hj,H⟩:=ob H
 refine jA ⟨[(3,tP 0),(4,tP 1),(6,tP 3),(10,.v (.c (.w 7 v22.length)))],(oM [.w 4,.w 5,.w 6] 0 69 (b8 {r3 with d9:=v18,d7:=v23})++[(1,.var 89 (kM [.f] (cG a1))),(3,.var 188 (kM [.z,.z,.z,.z,.z,.z] (cB dr))),(7,w46 v22)]),8⟩ ?_ ?_
 .refine cC Hj ?_ ?_<;>intro H
  .exact ai H
  obtain⟨⟨v24,v25⟩,Hj,H⟩:=ob H
  refine jA ⟨[(3,tP 0),(4,tP 1),(6,tP 3),(10,.v (.c (.w 8 v24.length)))],(oM [.w 4,.w 5,.w 6] 0 69 (b8 {r3 with d9:=v18,d7:=v25})++[(1,.var 89 (kM [.f] (cG a1))),(3,.var 188 (kM [.z,.z,.z,.z,.z,.z] (cB dr))),(8,w46 v24)]),9⟩ ?_ ?_
  .refine cC Hj ?_ ?_<;>intro H
   .refine aa H λr26 q26 H=>nA (ca (hF:=yh q26)) ?_
    exact ai H
   cases H
   refine ay (AG (nx':=9) rfl) ?_
   refine ay (wS 8 7) ?_
   exact wo
  cases H
  refine ay (wS 7 8) ?_
  exact wo
 refine aa H λr27 q27 H=>nA (ca (hF:=Eg q27)) ?_
 obtain⟨h,H⟩:=rq H
 refine sA (apT (enc:=dR) (ys:=v22) (zs:=r27.cr) h) ?_
 exact ao H
def nk (a0:ah) (a1:aH):Option bR:=
 YL (kq a1) λr1=>bif !r1 then(YL (ny a0) λr2=>some r2) else(bif eqB a1.aV 1 then(YL (nh a0 a1) λr3=>some r3) else(bif eqB a1.aV 3 then(YL (kK a0 a1) λr4=>some r4) else(bif eqB a1.aV 5 then(YL (jg a0 a1) λr5=>some r5) else(bif eqB a1.aV 8 then(YL (lI a0 a1) λr6=>some r6) else(YL (ny a0) λr7=>some r7)))))
theorem Bi {a0:ah} {a1:aH} {r:bR} (H:nk a0 a1=some r):Fn prog 347 [.agg (bB a0),.agg (ey a1)] [.agg (qM [.d,.d,.d,.o] (eB r))]:=by
 refine fI func347 ntmps347 ?_
 refine aa H λr1 q1 H=>nA (ca (hF:=tL q1)) ?_
 refine cC H ?_ ?_<;>intro H
 .refine aa H λr2 q2 H=>nA (ca (hF:=oi q2)) ?_
  cases H
  refine cU (aU (o:=3)) ?_
  refine cU (aU (o:=4)) ?_
  refine cU (aU (o:=5)) ?_
  refine cU (dq (o:=2)) ?_
  exact dT
 refine cC H ?_ ?_<;>intro H
 .refine aa H λr3 q3 H=>nA (ca (hF:=Bf q3)) ?_
  cases H
  refine cU (aU (o:=3)) ?_
  refine cU (aU (o:=4)) ?_
  refine cU (aU (o:=5)) ?_
  refine cU (dq (o:=2)) ?_
  exact dT
 refine cC H ?_ ?_<;>intro H
 .refine aa H λr4 q4 H=>nA (ca (hF:=yN q4)) ?_
  exact ao H
 refine cC H ?_ ?_<;>intro H
 .refine aa H λr5 q5 H=>nA (ca (hF:=wy q5)) ?_
  exact ao H
 refine cC H ?_ ?_<;>intro H
 .refine aa H λr6 q6 H=>nA (ca (hF:=Ab q6)) ?_
  cases H
  refine cU (aU (o:=3)) ?_
  refine cU (aU (o:=4)) ?_
  refine cU (aU (o:=5)) ?_
  refine cU (dq (o:=2)) ?_
  exact dT
 refine aa H λr7 q7 H=>nA (ca (hF:=oi q7)) ?_
 cases H
 refine cU (aU (o:=3)) ?_
 refine cU (aU (o:=4)) ?_
 refine cU (aU (o:=5)) ?_
 refine cU (dq (o:=2)) ?_
 exact dT
def nj (a0:aD) (a1:aH):Option bh:=
 YL (kq a1) λr1=>YL (bif !r1 then(some true) else(bif !eqB a1.bg a0.bg then(some true) else(some (eqB a0.bu 0)))) λ(v2:Bool)=>bif v2 then(YL (qR a0) λr3=>some r3) else(YL (jy a0) λr4=>YL (bif eqB a1.aV 2 then(some (eqB a0.bu 1)) else(some false)) λ(v5:Bool)=>bif v5 then(YL (xv a0 a1) λr6=>some r6) else(YL (bif eqB a1.aV 4 then(bif eqB a0.bu 1 then(YL (gD a0.aO) λr8=>bif r8 then(bif eqB a1.ag a0.ag then(YL (gF a0.aO a1) λr9=>some r9) else(some false)) else(some false)) else(some false)) else(some false)) λ(v7:Bool)=>bif v7 then(some (⟨{r4 with bu:=2,a9:=a1.a9,de:=true},([]:List aH)⟩:bh)) else(YL (bif eqB a1.aV 6 then(bif eqB a0.bu 2 then(bif eqB a1.ag a0.ag then(bif eqB a1.a9 a0.a9 then(YL (gF a0.aO a1) λr11=>some r11) else(some false)) else(some false)) else(some false)) else(some false)) λ(v10:Bool)=>bif v10 then(some (⟨{r4 with de:=true},([]:List aH)⟩:bh)) else(YL (bif eqB a1.aV 7 then(bif eqB a0.bu 3 then(some (ltB a0.a9 999999)) else(some false)) else(some false)) λ(v12:Bool)=>bif v12 then(YL (wN {r4 with bu:=2}) λr13=>some r13) else(YL (bif eqB a1.aV 7 then(some (eqB a0.bu 2)) else(some false)) λ(v14:Bool)=>bif v14 then(YL (tU a0) λr15=>YL (lB {r4 with de:=false} r15) λr16=>some r16) else(some (⟨r4,([]:List aH)⟩:bh)))))))
theorem Bh {a0:aD} {a1:aH} {r:bh} (H:nj a0 a1=some r):Fn prog 349 [.agg (cI a0),.agg (ey a1)] [.agg (qM [.d,.d,.o] (cL r))]:=by
 refine fI func349 ntmps349 ?_
 refine aa H λr1 q1 H=>nA (ca (hF:=tL q1)) ?_
 refine aa H λv2 Hj H=>jR ⟨[(2,tP 0),(3,tP 1),(4,tP 2),(20,tB v2)],[(0,.var 86 (kM [.f,.f] (db a0))),(1,.var 42 (kM [] (cY a1))),(2,.var 181 (kM [.z,.z,.z] (cL eO)))],3⟩ ?_ ?_
 .refine gC Hj ?_ ?_<;>intro H
  .exact ai H
  refine gC H ?_ ?_<;>intro H
  .exact ai H
  exact ai H
 refine cC H ?_ ?_<;>intro H
 .refine aa H λr3 q3 H=>nA (ca (hF:=uI q3)) ?_
  cases H
  refine cU (aU (o:=3)) ?_
  refine cU (aU (o:=4)) ?_
  refine cU (dq (o:=2)) ?_
  exact dT
 refine aa H λr4 q4 H=>nA (ca (hF:=jh q4)) ?_
 refine aa H λv5 Hj H=>jR ⟨[(2,tP 0),(3,tP 1),(4,tP 2),(5,tP 5),(25,tB v5)],(oM [.w 3,.w 4] 5 86 (db r4)++[(0,.var 86 (kM [.f,.f] (db a0))),(1,.var 42 (kM [] (cY a1))),(2,.var 181 (kM [.z,.z,.z] (cL eO)))]),6⟩ ?_ ?_
 .refine gC Hj ?_ ?_<;>intro H
  .exact ai H
  exact ai H
 refine cC H ?_ ?_<;>intro H
 .refine aa H λr6 q6 H=>nA (ca (hF:=Kl q6)) ?_
  cases H
  refine cU (aU (o:=6)) ?_
  refine cU (aU (o:=7)) ?_
  refine cU (dq (o:=2)) ?_
  exact dT
 refine aa H λv7 Hj H=>jR ⟨[(2,tP 0),(3,tP 1),(4,tP 2),(5,tP 5),(37,tB v7)],(oM [.w 3,.w 4] 5 86 (db r4)++[(0,.var 86 (kM [.f,.f] (db a0))),(1,.var 42 (kM [] (cY a1))),(2,.var 181 (kM [.z,.z,.z] (cL eO)))]),6⟩ ?_ ?_
 .refine gC Hj ?_ ?_<;>intro H
  .refine gC H ?_ ?_<;>intro H
   .refine aa H λr8 q8 H=>nG (ca (hF:=iz q8)) ?_
    refine gC H ?_ ?_<;>intro H
    .refine gC H ?_ ?_<;>intro H
     .refine aa H λr9 q9 H=>nG (ca (hF:=jw q9)) ?_
      exact ai H
     exact ai H
    exact ai H
   exact ai H
  exact ai H
 refine cC H ?_ ?_<;>intro H
 .cases H
  refine cU (wB 6 (([]:List aH).length)) ?_
  refine cU (aU (o:=3)) ?_
  refine cU (aU (o:=4)) ?_
  refine cU (dq (o:=2)) ?_
  exact dT
 refine aa H λv10 Hj H=>jR ⟨[(2,tP 0),(3,tP 1),(4,tP 2),(5,tP 5),(69,tB v10)],(oM [.w 3,.w 4] 5 86 (db r4)++[(0,.var 86 (kM [.f,.f] (db a0))),(1,.var 42 (kM [] (cY a1))),(2,.var 181 (kM [.z,.z,.z] (cL eO)))]),6⟩ ?_ ?_
 .refine gC Hj ?_ ?_<;>intro H
  .refine gC H ?_ ?_<;>intro H
   .refine gC H ?_ ?_<;>intro H
    .refine gC H ?_ ?_<;>intro H
     .refine aa H λr11 q11 H=>nG (ca (hF:=jw q11)) ?_
      exact ai H
     exact ai H
    exact ai H
   exact ai H
  exact ai H
 refine cC H ?_ ?_<;>intro H
 .cases H
  refine cU (wB 6 (([]:List aH).length)) ?_
  refine cU (aU (o:=3)) ?_
  refine cU (aU (o:=4)) ?_
  refine cU (dq (o:=2)) ?_
  exact dT
 refine aa H λv12 Hj H=>jR ⟨[(2,tP 0),(3,tP 1),(4,tP 2),(5,tP 5),(99,tB v12)],(oM [.w 3,.w 4] 5 86 (db r4)++[(0,.var 86 (kM [.f,.f] (db a0))),(1,.var 42 (kM [] (cY a1))),(2,.var 181 (kM [.z,.z,.z] (cL eO)))]),6⟩ ?_ ?_
 .refine gC Hj ?_ ?_<;>intro H
  .refine gC H ?_ ?_<;>intro H
   .exact ai H
   exact ai H
  exact ai H
 refine cC H ?_ ?_<;>intro H
 .refine aa H λr13 q13 H=>bH (aU (o:=3)) ?_
  refine bH (aU (o:=4)) ?_
  refine bH (cj (k:=114)) ?_
  refine sA (cwu [] [(210,6)] 7 (FnV.up (Ex q13) rfl rfl)) ?_
  exact ao H
 refine aa H λv14 Hj H=>jR ⟨[(2,tP 0),(4,tP 2),(5,tP 5),(116,tB v14)],(oM [.w 3,.w 4] 5 86 (db r4)++[(0,.var 86 (kM [.f,.f] (db a0))),(2,.var 181 (kM [.z,.z,.z] (cL eO)))]),6⟩ ?_ ?_
 .refine gC Hj ?_ ?_<;>intro H
  .exact ai H
  exact ai H
 refine cC H ?_ ?_<;>intro H
 .refine zI (List.range 5) ?_
  refine aa H λr15 q15 H=>zA (ca (hF:=yW q15)) ?_
  refine aa H λr16 q16 H=>zB (ay (aU (o:=3)) (ay (aU (o:=4)) (cj (k:=126)))) (hP rfl (cwu [] [(210,6)] 7 (FnV.up (qS q16) rfl rfl))) bW ?_
  refine wA (spx 100464) ?_
  exact ao H
 cases H
 refine cU (wB 6 (([]:List aH).length)) ?_
 refine cU (aU (o:=3)) ?_
 refine cU (aU (o:=4)) ?_
 refine cU (dq (o:=2)) ?_
 exact dT
def rX (a0:aD) (a1:Int):Option bh:=
 YL (bif eqB a1 a0.bg then(some true) else(YL (cO a1 0 5) λr2=>some (!r2))) λ(v1:Bool)=>bif v1 then(YL (qR a0) λr3=>some r3) else(YL (jy a0) λr4=>YL (bif eqB a0.bu 2 then(some (ltB a0.a9 999999)) else(some false)) λ(v5:Bool)=>bif v5 then(YL (wN {r4 with bg:=a1}) λr6=>some r6) else(some (⟨{r4 with bg:=a1},([]:List aH)⟩:bh)))
theorem Fq {a0:aD} {a1:Int} {r:bh} (H:rX a0 a1=some r):Fn prog 303 [.agg (cI a0),aI a1] [.agg (qM [.d,.d,.o] (cL r))]:=by
 refine fI func303 ntmps303 ?_
 refine aa H λv1 Hj H=>jR ⟨[(1,tI a1),(2,tP 0),(4,tP 1),(14,tB v1)],[(0,.var 86 (kM [.f,.f] (db a0))),(1,.var 181 (kM [.z,.z,.z] (cL eO)))],2⟩ ?_ ?_
 .refine gC Hj ?_ ?_<;>intro H
  .exact ai H
  refine aa H λr2 q2 H=>nG (ca (hF:=bT q2)) ?_
  exact ai H
 refine cC H ?_ ?_<;>intro H
 .refine aa H λr3 q3 H=>nA (ca (hF:=uI q3)) ?_
  cases H
  refine cU (aU (o:=2)) ?_
  refine cU (aU (o:=3)) ?_
  refine cU (dq (o:=1)) ?_
  exact dT
 refine aa H λr4 q4 H=>nA (ca (hF:=jh q4)) ?_
 refine aa H λv5 Hj H=>jR ⟨[(4,tP 1),(5,tP 4),(28,tB v5)],(oM [.w 2,.w 3] 4 86 (db {r4 with bg:=a1})++[(1,.var 181 (kM [.z,.z,.z] (cL eO)))]),5⟩ ?_ ?_
 .refine gC Hj ?_ ?_<;>intro H
  .exact ai H
  exact ai H
 refine cC H ?_ ?_<;>intro H
 .refine aa H λr6 q6 H=>bH (aU (o:=2)) ?_
  refine bH (aU (o:=3)) ?_
  refine bH (cj (k:=29)) ?_
  refine sA (cwu [] [(210,5)] 6 (FnV.up (Ex q6) rfl rfl)) ?_
  exact ao H
 cases H
 refine cU (wB 5 (([]:List aH).length)) ?_
 refine cU (aU (o:=2)) ?_
 refine cU (aU (o:=3)) ?_
 refine cU (dq (o:=1)) ?_
 exact dT
end Go.AM
