/- A part. -/
import Derived.Test.YtmginjngmidkbaaGreatS9
set_option linter.unusedVariables false
open Option renaming bind->abU
namespace Go.AM
open Go.Proofs
open Tryz
attribute [local irreducible] AWN NS AWO AWR AWC DR ea gL
set_option maxRecDepth 100000
set_option maxHeartbeats 40000000
def Aa (a0:bm) (a1:ab):Option (dh×bm):=
 abU (cI a0 (a1.av.length:Int)) λr1=>abU (ix a1.av r1.1) λx2=>abU (cI r1.2 (a1.eo.aX.length:Int)) λr3=>abU (i9 r3.2 2) λr4=>abU (cI r4.2 3) λr5=>abU (bif eqB r5.1 0 then(abU (cI r5.2 9) λr30=>abU (sW x2.aV x2.ag x2.aT (⟨WR (1+r30.1),[9]⟩:ae)) λr31=>some (r30.2,(⟨r1.1,false,true,r3.1,dQ,{r31 with bz:={r31.bz with iM:=Int.tmod (WR (r31.bz.iM+1)) 2147483647}}⟩:bF))) else(abU (bif eqB r5.1 1 then(abU (Fw r5.2 x2) λr49=>some (false,r49.2,r49.1)) else(abU (ix a1.aF r1.1) λx50=>abU (xa r5.2 x50) λr51=>some (true,r51.2,r51.1))) λ((v35,v47,v48):Bool×bm×aD)=>some (v47,(⟨r1.1,v35,false,r3.1,v48,eE⟩:bF)))) λ((v28,v29):bm×bF)=>abU (tT a1 {d9 with a8:=13,bS:=v29}) λr52=>abU (bif !r52 then(some 7) else(some v29.bh.a8)) λ(v53:Int)=>some ({d9 with a8:=13,bS:={v29 with bh:={v29.bh with a8:=v53}}},v28)
theorem Nq {a0:bm} {a1:ab} {r:dh×bm} (H:Aa a0 a1=some r):FnV prog 190 [(200,.var 135 (kM [.f] (ci a0)))] [tP 200,.v (.agg (kM [.f,.f,.f,.f,.f] (aU a1)))] [(200,.var 135 (kM [.f] (ci r.2)))] (.v (.agg (kM [.z,.n 210] (fB {r.1 with bg:=[]})))) [(210,n5 r.1.bS.cz.bz.bg)]:=by
 refine fV func190 ntmps190 ?_
 refine aa H λr1 q1 H=>sA (cw (o:=200) (cp q1)) ?_
 refine aa H λx2 hx2 H=>nA (xdT (enc:=cS) hx2) ?_
 refine aa H λr3 q3 H=>sA (cw (o:=200) (cp q3)) ?_
 refine aa H λr4 q4 H=>sA (cw (o:=200) (iQ q4)) ?_
 refine aa H λr5 q5 H=>sA (cw (o:=200) (cp q5)) ?_
 obtain⟨⟨v28,v29⟩,Hj,H⟩:=ob H
 refine jA ⟨[(3,tP 210),(4,tP 211),(7,tP 213)],(oM [.n 215] 213 49 (jt v29)++[(200,.var 135 (kM [.f] (ci v28))),(210,.var 34 (kM [.f,.f,.f,.f,.f] (aU a1))),(211,.var 51 (kM [.z,.z] (fB d9)))]),216⟩ ?_ ?_
 .refine cC Hj ?_ ?_<;>intro H
  .refine zI (List.range 14) ?_
   refine aa H λr30 q30 H=>wA (cwx (o:=200) (cp q30)) ?_
   refine aa H λr31 q31 H=>zA (ca (hF:=Cy q31)) ?_
   refine wA (spx 100330) ?_
   refine nA (ir rfl rfl rfl (by decide)) ?_
   cases H
   refine aq (ee 215) ?_
   refine aq (wB 214 [9].length) ?_
   exact wo
  obtain⟨⟨v35,v47,v48⟩,Hj,H⟩:=ob H
  refine jA ⟨[(3,tP 210),(4,tP 211),(7,tP 213)],[(200,.var 135 (kM [.f] (ci v47))),(210,.var 34 (kM [.f,.f,.f,.f,.f] (aU a1))),(211,.var 51 (kM [.z,.z] (fB d9))),(213,.var 49 (kM [.z] (jt (⟨r1.1,v35,false,r3.1,v48,eE⟩:bF))))],214⟩ ?_ ?_
  .refine cC Hj ?_ ?_<;>intro H
   .refine aa H λr49 q49 H=>sA (cw (o:=200) (Ss q49)) ?_
    exact ai H
   refine aa H λx50 hx50 H=>nA (xdT (enc:=bU) hx50) ?_
   refine aa H λr51 q51 H=>sA (cw (o:=200) (Le q51)) ?_
   exact ai H
  cases H
  refine aq (dY (o:=213) (j:=19) 5 1 true) ?_
  refine aq (wB 214 (([]:List Int).length)) ?_
  refine aq (CZ (nx':=216) rfl) ?_
  refine aq (wS 215 214) ?_
  exact wo
 refine aa H λr52 q52 H=>nA (ca (hF:=Iv q52)) ?_
 refine aa H λv53 Hj H=>jA ⟨[(4,tP 211),(8,tP 216)],(oM [.z,.n 215] 216 51 (fB {d9 with a8:=13,bS:={v29 with bh:={v29.bh with a8:=v53}}})++[(200,.var 135 (kM [.f] (ci v28))),(211,.var 51 (kM [.z,.z] (fB d9)))]),217⟩ ?_ ?_
 .exact az Hj
 cases H
 refine co (wS 215 210) ?_
 exact cd
def rL (a0:ah) (a1:am) (a2:aS):Option bZ:=
 abU (zp a0) λr1=>bif r1 then(abU (s8 a0 a1) λr2=>some r2) else(abU (ja a0) λr3=>bif leB r3.gF.eg r3.bT.ev then(abU (rI a1 r3.bT) λr7=>abU (bif ltB 0 (r3.ax.aw.length:Int) then(abU (Hk 5 (WR (r3.d6+1))) λr9=>some r9) else(some 0)) λ(v8:Int)=>bif ltB 4 v8 then(abU (zr {r3 with d6:=v8,bT:=r7.2} r7.1 a2) λr10=>some r10) else(abU (bif ltB 0 (r3.ax.aw.length:Int) then(some (ltB 0 r3.dP)) else(some false)) λ(v11:Bool)=>abU (bif v11 then(some (([]:List aA),WR (r3.dP-1))) else(abU (bif ltB 0 (r3.ax.aw.length:Int) then(abU (nD {r3 with d6:=v8,dP:=3,bT:=r7.2}) λr16=>some (r16,3)) else(some (([]:List aA),r3.dP))) λ((v14,v15):List aA×Int)=>some (v14,v15))) λ((v12,v13):List aA×Int)=>abU (zi {r3 with d6:=v8,dP:=v13,bT:=r7.2} r7.1) λr17=>bif c8 64 (v12++r17.cz).length then(some {r17 with cz:=(v12++r17.cz)}) else none)) else(abU (bif ltB 0 (r3.ax.aw.length:Int) then(abU (Hk 5 (WR (r3.d6+1))) λr19=>some r19) else(some 0)) λ(v18:Int)=>bif ltB 4 v18 then(abU (zr {r3 with d6:=v18} a1 a2) λr20=>some r20) else(abU (bif ltB 0 (r3.ax.aw.length:Int) then(some (ltB 0 r3.dP)) else(some false)) λ(v21:Bool)=>abU (bif v21 then(some (([]:List aA),WR (r3.dP-1))) else(abU (bif ltB 0 (r3.ax.aw.length:Int) then(abU (nD {r3 with d6:=v18,dP:=3}) λr26=>some (r26,3)) else(some (([]:List aA),r3.dP))) λ((v24,v25):List aA×Int)=>some (v24,v25))) λ((v22,v23):List aA×Int)=>abU (zi {r3 with d6:=v18,dP:=v23} a1) λr27=>bif c8 64 (v22++r27.cz).length then(some {r27 with cz:=(v22++r27.cz)}) else none)))
theorem Hv {a0:ah} {a1:am} {a2:aS} {r:bZ} (H:rL a0 a1 a2=some r):Fn prog 265 [.agg (bU a0),.agg (cN a1),.agg (iw a2)] [.agg (qM [.o,.o,.o,.o,.o,.o] (cY r))]:=by
 refine fI func265 ntmps265 ?_
 refine aa H λr1 q1 H=>nA (ca (hF:=HI q1)) ?_
 refine cC H ?_ ?_<;>intro H
 .refine aa H λr2 q2 H=>nA (ca (hF:=Br q2)) ?_
  exact ao H
 refine aa H λr3 q3 H=>nA (ca (hF:=iK q3)) ?_
 refine cC H ?_ ?_<;>intro H
 .refine aa H λr7 q7 H=>nA (ca (hF:=Hp q7)) ?_
  refine aa H λv8 Hj H=>jA ⟨[(3,tP 0),(4,tP 1),(5,tP 2),(6,tP 3),(9,tB (ltB 0 (r3.ax.aw.length:Int)))],(oM [.w 4,.w 5,.w 6] 0 75 (ct {r3 with d6:=v8,bT:=r7.2})++(oM [.w 7] 1 57 (cZ r7.1)++[(2,.var 26 [.d false (.l (a2.aX.map dy))]),(3,.var 195 (kM [.z,.z,.z,.z,.z,.z] (cY dw)))])),8⟩ ?_ ?_
  .refine cC Hj ?_ ?_<;>intro H
   .refine aa H λr9 q9 H=>nA (ca (hF:=DM q9)) ?_
    exact ai H
   exact ai H
  refine cC H ?_ ?_<;>intro H
  .refine aa H λr10 q10 H=>nA (ca (hF:=HJ q10)) ?_
   exact ao H
  refine aa H λv11 Hj H=>jR ⟨[(3,tP 0),(4,tP 1),(6,tP 3),(9,tB (ltB 0 (r3.ax.aw.length:Int))),(10,.v (.c (.w 8 (([]:List aA).length)))),(61,tB v11)],(oM [.w 4,.w 5,.w 6] 0 75 (ct {r3 with d6:=v8,bT:=r7.2})++(oM [.w 7] 1 57 (cZ r7.1)++[(3,.var 195 (kM [.z,.z,.z,.z,.z,.z] (cY dw))),(8,w47 ([]:List aA))])),9⟩ ?_ ?_
  .exact az Hj
  obtain⟨⟨v12,v13⟩,Hj,H⟩:=ob H
  refine jA ⟨[(3,tP 0),(4,tP 1),(6,tP 3),(10,.v (.c (.w 8 v12.length)))],(oM [.w 4,.w 5,.w 6] 0 75 (ct {r3 with d6:=v8,dP:=v13,bT:=r7.2})++(oM [.w 7] 1 57 (cZ r7.1)++[(3,.var 195 (kM [.z,.z,.z,.z,.z,.z] (cY dw))),(8,w47 v12)])),9⟩ ?_ ?_
  .refine cC Hj ?_ ?_<;>intro H
   .exact ai H
   obtain⟨⟨v14,v15⟩,Hj,H⟩:=ob H
   refine jA ⟨[(3,tP 0),(4,tP 1),(6,tP 3),(10,.v (.c (.w 9 v14.length)))],(oM [.w 4,.w 5,.w 6] 0 75 (ct {r3 with d6:=v8,dP:=v15,bT:=r7.2})++(oM [.w 7] 1 57 (cZ r7.1)++[(3,.var 195 (kM [.z,.z,.z,.z,.z,.z] (cY dw))),(9,w47 v14)])),10⟩ ?_ ?_
   .refine cC Hj ?_ ?_<;>intro H
    .refine aa H λr16 q16 H=>nA (ca (hF:=AK q16)) ?_
     exact ai H
    cases H
    refine aq (CZ (nx':=10) rfl) ?_
    refine aq (wS 9 8) ?_
    exact wo
   cases H
   refine aq (wS 8 9) ?_
   exact wo
  refine aa H λr17 q17 H=>nA (ca (hF:=Hr q17)) ?_
  obtain⟨h,H⟩:=rq H
  refine sA (apT (enc:=dH) (ys:=v12) (zs:=r17.cz) h) ?_
  exact ao H
 refine aa H λv18 Hj H=>jA ⟨[(3,tP 0),(4,tP 1),(5,tP 2),(6,tP 3),(9,tB (ltB 0 (r3.ax.aw.length:Int)))],(oM [.w 4,.w 5,.w 6] 0 75 (ct {r3 with d6:=v18})++[(1,.var 57 (kM [.f] (cZ a1))),(2,.var 26 [.d false (.l (a2.aX.map dy))]),(3,.var 195 (kM [.z,.z,.z,.z,.z,.z] (cY dw)))]),7⟩ ?_ ?_
 .refine cC Hj ?_ ?_<;>intro H
  .refine aa H λr19 q19 H=>nA (ca (hF:=DM q19)) ?_
   exact ai H
  exact ai H
 refine cC H ?_ ?_<;>intro H
 .refine aa H λr20 q20 H=>nA (ca (hF:=HJ q20)) ?_
  exact ao H
 refine aa H λv21 Hj H=>jR ⟨[(3,tP 0),(4,tP 1),(6,tP 3),(9,tB (ltB 0 (r3.ax.aw.length:Int))),(10,.v (.c (.w 7 (([]:List aA).length)))),(61,tB v21)],(oM [.w 4,.w 5,.w 6] 0 75 (ct {r3 with d6:=v18})++[(1,.var 57 (kM [.f] (cZ a1))),(3,.var 195 (kM [.z,.z,.z,.z,.z,.z] (cY dw))),(7,w47 ([]:List aA))]),8⟩ ?_ ?_
 .exact az Hj
 obtain⟨⟨v22,v23⟩,Hj,H⟩:=ob H
 refine jA ⟨[(3,tP 0),(4,tP 1),(6,tP 3),(10,.v (.c (.w 7 v22.length)))],(oM [.w 4,.w 5,.w 6] 0 75 (ct {r3 with d6:=v18,dP:=v23})++[(1,.var 57 (kM [.f] (cZ a1))),(3,.var 195 (kM [.z,.z,.z,.z,.z,.z] (cY dw))),(7,w47 v22)]),8⟩ ?_ ?_
 .refine cC Hj ?_ ?_<;>intro H
  .exact ai H
  obtain⟨⟨v24,v25⟩,Hj,H⟩:=ob H
  refine jA ⟨[(3,tP 0),(4,tP 1),(6,tP 3),(10,.v (.c (.w 8 v24.length)))],(oM [.w 4,.w 5,.w 6] 0 75 (ct {r3 with d6:=v18,dP:=v25})++[(1,.var 57 (kM [.f] (cZ a1))),(3,.var 195 (kM [.z,.z,.z,.z,.z,.z] (cY dw))),(8,w47 v24)]),9⟩ ?_ ?_
  .refine cC Hj ?_ ?_<;>intro H
   .refine aa H λr26 q26 H=>nA (ca (hF:=AK q26)) ?_
    exact ai H
   cases H
   refine aq (CZ (nx':=9) rfl) ?_
   refine aq (wS 8 7) ?_
   exact wo
  cases H
  refine aq (wS 7 8) ?_
  exact wo
 refine aa H λr27 q27 H=>nA (ca (hF:=Hr q27)) ?_
 obtain⟨h,H⟩:=rq H
 refine sA (apT (enc:=dH) (ys:=v22) (zs:=r27.cz) h) ?_
 exact ao H
def lS (a0:ah) (a1:aD):Option bI:=
 abU (bif leB a0.bE 0 then(some true) else(bif !eqB a1.ag a0.bE then(some true) else(abU (pF a0.aC a1.bL) λr2=>bif !r2 then(some true) else(some (leB 999999 a0.aT))))) λ(v1:Bool)=>bif v1 then(abU (o4 a0) λr3=>some r3) else(abU (ja a0) λr4=>abU (s7 (⟨r4.bA,r4.gF,1,cg,0,a0.bE,a0.aC.eP,WR (a0.aT+1),a1.be,0,ec,r4.aM,r4.ax,r4.dP,r4.bT⟩:ah) 4) λr5=>some r5)
theorem Bi {a0:ah} {a1:aD} {r:bI} (H:lS a0 a1=some r):Fn prog 354 [.agg (bU a0),.agg (c9 a1)] [.agg (qM [.d,.d,.d,.o] (cK r))]:=by
 refine fI func354 ntmps354 ?_
 refine aa H λv1 Hj H=>jR ⟨[(2,tP 0),(3,tP 1),(4,tP 2),(28,tB v1)],[(0,.var 75 (kM [.f,.f,.f] (ct a0))),(1,.var 43 (kM [] (cP a1))),(2,.var 184 (kM [.z,.z,.z,.z] (cK fg)))],3⟩ ?_ ?_
 .refine gC Hj ?_ ?_<;>intro H
  .exact ai H
  refine gC H ?_ ?_<;>intro H
  .exact ai H
  refine aa H λr2 q2 H=>nG (ca (hF:=Bj q2)) ?_
  exact az H
 refine cC H ?_ ?_<;>intro H
 .refine aa H λr3 q3 H=>nA (ca (hF:=pI q3)) ?_
  cases H
  refine du (bb (o:=3)) ?_
  refine du (bb (o:=4)) ?_
  refine du (bb (o:=5)) ?_
  refine du (cL (o:=2)) ?_
  exact dW
 refine aa H λr4 q4 H=>nA (ca (hF:=iK q4)) ?_
 refine aa H λr5 q5 H=>bQ (bb (o:=3)) ?_
 refine bQ (bb (o:=4)) ?_
 refine bQ (bb (o:=5)) ?_
 refine bQ (b7 (k:=54)) ?_
 refine sA (cwu [] [(210,7)] 8 (FnV.up (CQ q5) rfl rfl)) ?_
 exact ao H
def jU (a0:ah) (a1:aD):Option bI:=
 abU (vO a0 a1) λr1=>abU (bif !r1 then(some true) else(bif ltB a1.aT a0.aT then(some true) else(bif eqB a1.aT a0.aT then(some (!eqB a1.be a0.be)) else(some false)))) λ(v2:Bool)=>bif v2 then(abU (o4 a0) λr3=>some r3) else(abU (ja a0) λr4=>abU (s7 {r4 with aT:=a1.aT,be:=a1.be,d6:=0,ge:=ec,dP:=0} 6) λr5=>some r5)
theorem zf {a0:ah} {a1:aD} {r:bI} (H:jU a0 a1=some r):Fn prog 355 [.agg (bU a0),.agg (c9 a1)] [.agg (qM [.d,.d,.d,.o] (cK r))]:=by
 refine fI func355 ntmps355 ?_
 refine aa H λr1 q1 H=>nA (ca (hF:=ED q1)) ?_
 refine aa H λv2 Hj H=>jR ⟨[(2,tP 0),(3,tP 1),(4,tP 2),(30,tB v2)],[(0,.var 75 (kM [.f,.f,.f] (ct a0))),(1,.var 43 (kM [] (cP a1))),(2,.var 184 (kM [.z,.z,.z,.z] (cK fg)))],3⟩ ?_ ?_
 .exact az Hj
 refine cC H ?_ ?_<;>intro H
 .refine aa H λr3 q3 H=>nA (ca (hF:=pI q3)) ?_
  cases H
  refine du (bb (o:=3)) ?_
  refine du (bb (o:=4)) ?_
  refine du (bb (o:=5)) ?_
  refine du (cL (o:=2)) ?_
  exact dW
 refine aa H λr4 q4 H=>nA (ca (hF:=iK q4)) ?_
 refine aa H λr5 q5 H=>bQ (bb (o:=3)) ?_
 refine bQ (bb (o:=4)) ?_
 refine bQ (bb (o:=5)) ?_
 refine bQ (b7 (k:=45)) ?_
 refine sA (cwu [] [(210,7)] 8 (FnV.up (CQ q5) rfl rfl)) ?_
 exact ao H
def mU (a0:ah) (a1:aD):Option bI:=
 abU (vO a0 a1) λr1=>abU (bif !r1 then(some true) else(some (ltB a0.ax.bB a1.bL))) λ(v2:Bool)=>bif v2 then(abU (o4 a0) λr3=>some r3) else(abU (ja a0) λr4=>abU (kS a0.ax a1.bL) λr5=>abU (pH a0.ax.aw) λr6=>abU (pH r5.aw) λr7=>abU (pV a0.bT (WR (r6-r7))) λr8=>some (⟨{r4 with d6:=0,ax:=r5,bT:=r8.1},([]:List aD)⟩:bI))
theorem Cv {a0:ah} {a1:aD} {r:bI} (H:mU a0 a1=some r):Fn prog 356 [.agg (bU a0),.agg (c9 a1)] [.agg (qM [.o,.o,.o,.o] (cK r))]:=by
 refine fI func356 ntmps356 ?_
 refine aa H λr1 q1 H=>nA (ca (hF:=ED q1)) ?_
 refine aa H λv2 Hj H=>jR ⟨[(2,tP 0),(3,tP 1),(4,tP 2),(19,tB v2)],[(0,.var 75 (kM [.f,.f,.f] (ct a0))),(1,.var 43 (kM [] (cP a1))),(2,.var 184 (kM [.z,.z,.z,.z] (cK fg)))],3⟩ ?_ ?_
 .exact az Hj
 refine cC H ?_ ?_<;>intro H
 .refine aa H λr3 q3 H=>nA (ca (hF:=pI q3)) ?_
  exact ao H
 refine aa H λr4 q4 H=>nA (ca (hF:=iK q4)) ?_
 refine aa H λr5 q5 H=>nA (ca (hF:=Ao q5)) ?_
 refine zI (List.range 18) ?_
 refine aa H λr6 q6 H=>zA (ca (hF:=ui q6)) ?_
 refine aa H λr7 q7 H=>zA (ca (hF:=ui q7)) ?_
 refine aa H λr8 q8 H=>zA (ca (hF:=E4 q8)) ?_
 refine wA (spx 100438) ?_
 cases H
 refine du (wB 9 (([]:List aD).length)) ?_
 exact dW
def pW (a0:aJ) (a1:aA):Option a9:=
 abU (wW a0.aV a0.ag a0.aT a1) λr1=>abU (bif !eqB a0.bj 2 then(some true) else(some (!r1.2))) λ(v2:Bool)=>bif v2 then(abU (s5 a0) λr3=>some r3) else(abU (kv a0) λr4=>abU (oT a0.bV r1.1) λr5=>abU (jI a0.aV (⟨8,a0.be,a0.ag,a0.aT,r5.bB,cg,0⟩:aD)) λr6=>some (⟨{r4 with bV:=r5},[r6]⟩:a9))
theorem E7 {a0:aJ} {a1:aA} {r:a9} (H:pW a0 a1=some r):Fn prog 327 [.agg (cS a0),.agg (dH a1)] [.agg (qM [.d,.o,.o] (cf r))]:=by
 refine fI func327 ntmps327 ?_
 refine aa H λr1 q1 H=>nA (ca (hF:=K4 q1)) ?_
 refine aa H λv2 Hj H=>jR ⟨[(2,tP 0),(4,tP 2),(5,tP 3),(26,tB v2)],[(0,.var 93 (kM [.f,.f] (dt a0))),(2,.var 189 (kM [.z,.z,.z] (cf dZ))),(3,.var 131 (kM [.t] (di r1.1)))],4⟩ ?_ ?_
 .exact az Hj
 refine cC H ?_ ?_<;>intro H
 .refine aa H λr3 q3 H=>nA (ca (hF:=w8 q3)) ?_
  cases H
  refine du (bb (o:=4)) ?_
  refine du (cL (o:=2)) ?_
  exact dW
 refine aa H λr4 q4 H=>nA (ca (hF:=jV q4)) ?_
 refine aa H λr5 q5 H=>nA (ca (hF:=DO q5)) ?_
 refine aa H λr6 q6 H=>nA (ca (hF:=mC q6)) ?_
 cases H
 refine du (wB 9 [r6].length) ?_
 exact dW
def zo (a0:aJ):Option a9:=
 abU (vN {a0 with aT:=WR (a0.aT+1),cj:=false}) λr1=>abU (mH {a0 with aT:=WR (a0.aT+1),cj:=false} r1) λr2=>some r2
theorem HG {a0:aJ} {r:a9} (H:zo a0=some r):FnV prog 329 [] [.v (.agg (kM [.f,.f] (dt a0)))] [] (.v (.agg (kM [.f,.f,.w 210] (cf r)))) [(210,w43 r.db)]:=by
 refine fV func329 ntmps329 ?_
 refine zI (List.range 5) ?_
 refine aa H λr1 q1 H=>zA (ca (hF:=Bq q1)) ?_
 refine aa H λr2 q2 H=>zB b8 (gG rfl (cwv [] [(210,212)] 213 (s6 q2))) b8 ?_
 refine wA (spx 100454) ?_
 cases H
 refine co (wS 212 210) ?_
 exact cd
end Go.AM
