/- A part. -/
import Derived.Test.YtmginjngmidkbaaGreatS8
set_option linter.unusedVariables false
open Option renaming bind->abU
namespace Go.AM
open Go.Proofs
open Tryz
attribute [local irreducible] AWN NS AWO AWR AWC DR DZ dS gp iter
set_option maxRecDepth 100000
set_option maxHeartbeats 40000000
def zi (a0:bj) (a1:ab):Option (dN×bj):=
 abU (cO a0 (a1.av.length:Int)) λr1=>abU (ix a1.av r1.1) λx2=>abU (cO r1.2 (a1.ei.a8.length:Int)) λr3=>abU (jn r3.2 2) λr4=>abU (cO r4.2 3) λr5=>abU (bif eqB r5.1 0 then(abU (cO r5.2 9) λr30=>abU (s8 x2.aZ x2.ag x2.aX (⟨WR (1+r30.1),[9]⟩:ae)) λr31=>some (r30.2,(⟨r1.1,false,true,r3.1,dQ,{r31 with bC:={r31.bC with jE:=Int.tmod (WR (r31.bC.jE+1)) 2147483647}}⟩:bS))) else(abU (bif eqB r5.1 1 then(abU (D1 r5.2 x2) λr49=>some (false,r49.2,r49.1)) else(abU (ix a1.aF r1.1) λx50=>abU (wR r5.2 x50) λr51=>some (true,r51.2,r51.1))) λ((v35,v47,v48):Bool×bj×aH)=>some (v47,(⟨r1.1,v35,false,r3.1,v48,eF⟩:bS)))) λ((v28,v29):bj×bS)=>abU (ue a1 {eo with bh:=13,b8:=v29}) λr52=>abU (bif !r52 then(some 7) else(some v29.bA.bh)) λ(v53:Int)=>some ({eo with bh:=13,b8:={v29 with bA:={v29.bA with bh:=v53}}},v28)
theorem My {a0:bj} {a1:ab} {r:dN×bj} (H:zi a0 a1=some r):FnV prog 190 [(200,.var 135 (kM [.f] (co a0)))] [tP 200,.v (.agg (kM [.f,.f,.f,.f,.f] (bw a1)))] [(200,.var 135 (kM [.f] (co r.2)))] (.v (.agg (kM [.z,.n 210] (f8 {r.1 with bb:=[]})))) [(210,n5 r.1.b8.cA.bC.bb)]:=by
 refine fV func190 ntmps190 ?_
 refine aa H λr1 q1 H=>sA (cw (o:=200) (cp q1)) ?_
 refine aa H λx2 hx2 H=>nA (xdT (enc:=c9) hx2) ?_
 refine aa H λr3 q3 H=>sA (cw (o:=200) (cp q3)) ?_
 refine aa H λr4 q4 H=>sA (cw (o:=200) (i8 q4)) ?_
 refine aa H λr5 q5 H=>sA (cw (o:=200) (cp q5)) ?_
 obtain⟨⟨v28,v29⟩,Hj,H⟩:=ob H
 refine jA ⟨[(3,tP 210),(4,tP 211),(7,tP 213)],(oM [.n 215] 213 49 (mN v29)++[(200,.var 135 (kM [.f] (co v28))),(210,.var 34 (kM [.f,.f,.f,.f,.f] (bw a1))),(211,.var 51 (kM [.z,.z] (f8 eo)))]),216⟩ ?_ ?_
 .refine cC Hj ?_ ?_<;>intro H
  .refine zI (List.range 14) ?_
   refine aa H λr30 q30 H=>wA (cwx (o:=200) (cp q30)) ?_
   refine aa H λr31 q31 H=>zA (ca (hF:=Kb.h q31)) ?_
   refine wA (spx 100330) ?_
   refine nA (ir rfl rfl rfl (by decide)) ?_
   cases H
   refine an (ec 215) ?_
   refine an (wB 214 [9].length) ?_
   exact wo
  obtain⟨⟨v35,v47,v48⟩,Hj,H⟩:=ob H
  refine jA ⟨[(3,tP 210),(4,tP 211),(7,tP 213)],[(200,.var 135 (kM [.f] (co v47))),(210,.var 34 (kM [.f,.f,.f,.f,.f] (bw a1))),(211,.var 51 (kM [.z,.z] (f8 eo))),(213,.var 49 (kM [.z] (mN (⟨r1.1,v35,false,r3.1,v48,eF⟩:bS))))],214⟩ ?_ ?_
  .refine cC Hj ?_ ?_<;>intro H
   .refine aa H λr49 q49 H=>sA (cw (o:=200) (Sd q49)) ?_
    exact ai H
   refine aa H λx50 hx50 H=>nA (xdT (enc:=bZ) hx50) ?_
   refine aa H λr51 q51 H=>sA (cw (o:=200) (Kj q51)) ?_
   exact ai H
  cases H
  refine an (dH (o:=213) (j:=19) 5 1 true) ?_
  refine an (wB 214 (([]:List Int).length)) ?_
  refine an (uI (nx':=216) rfl) ?_
  refine an (wS 215 214) ?_
  exact wo
 refine aa H λr52 q52 H=>nA (ca (hF:=G8.h q52)) ?_
 refine aa H λv53 Hj H=>jA ⟨[(4,tP 211),(8,tP 216)],(oM [.z,.n 215] 216 51 (f8 {eo with bh:=13,b8:={v29 with bA:={v29.bA with bh:=v53}}})++[(200,.var 135 (kM [.f] (co v28))),(211,.var 51 (kM [.z,.z] (f8 eo)))]),217⟩ ?_ ?_
 .exact az Hj
 cases H
 refine bF (wS 215 210) ?_
 exact cg
def rT (a0:ah) (a1:am) (a2:aS):Option bM:=
 abU (yy a0) λr1=>bif r1 then(abU (tk a0 a1) λr2=>some r2) else(abU (jo a0) λr3=>bif leB r3.gG.et r3.bU.er then(abU (rQ a1 r3.bU) λr7=>abU (bif ltB 0 (r3.aw.aA.length:Int) then(abU (FT 5 (WR (r3.dX+1))) λr9=>some r9) else(some 0)) λ(v8:Int)=>bif ltB 4 v8 then(abU (yz {r3 with dX:=v8,bU:=r7.2} r7.1 a2) λr10=>some r10) else(abU (bif ltB 0 (r3.aw.aA.length:Int) then(some (ltB 0 r3.dP)) else(some false)) λ(v11:Bool)=>abU (bif v11 then(some (([]:List ax),WR (r3.dP-1))) else(abU (bif ltB 0 (r3.aw.aA.length:Int) then(abU (n8 {r3 with dX:=v8,dP:=3,bU:=r7.2}) λr16=>some (r16,3)) else(some (([]:List ax),r3.dP))) λ((v14,v15):List ax×Int)=>some (v14,v15))) λ((v12,v13):List ax×Int)=>abU (yr {r3 with dX:=v8,dP:=v13,bU:=r7.2} r7.1) λr17=>bif da 64 (v12++r17.cA).length then(some {r17 with cA:=(v12++r17.cA)}) else none)) else(abU (bif ltB 0 (r3.aw.aA.length:Int) then(abU (FT 5 (WR (r3.dX+1))) λr19=>some r19) else(some 0)) λ(v18:Int)=>bif ltB 4 v18 then(abU (yz {r3 with dX:=v18} a1 a2) λr20=>some r20) else(abU (bif ltB 0 (r3.aw.aA.length:Int) then(some (ltB 0 r3.dP)) else(some false)) λ(v21:Bool)=>abU (bif v21 then(some (([]:List ax),WR (r3.dP-1))) else(abU (bif ltB 0 (r3.aw.aA.length:Int) then(abU (n8 {r3 with dX:=v18,dP:=3}) λr26=>some (r26,3)) else(some (([]:List ax),r3.dP))) λ((v24,v25):List ax×Int)=>some (v24,v25))) λ((v22,v23):List ax×Int)=>abU (yr {r3 with dX:=v18,dP:=v23} a1) λr27=>bif da 64 (v22++r27.cA).length then(some {r27 with cA:=(v22++r27.cA)}) else none)))
instance F7 {a0:ah} {a1:am} {a2:aS} {r:bM}:FC prog (rT a0 a1 a2=some r) 265 [.agg (bZ a0),.agg (cT a1),.agg (gu a2)] [.agg (qM [.o,.o,.o,.o,.o,.o] (bD r))]:=⟨λH=>by
 refine fI func265 ntmps265 ?_
 refine aa H λr1 q1 H=>nA (ca (hF:=Gl.h q1)) ?_
 refine cC H ?_ ?_<;>intro H
 .refine aa H λr2 q2 H=>nA (ca (hF:=Ay.h q2)) ?_
  exact ao H
 refine aa H λr3 q3 H=>nA (ca (hF:=wQ.h q3)) ?_
 refine cC H ?_ ?_<;>intro H
 .refine aa H λr7 q7 H=>nA (ca (hF:=F1.h q7)) ?_
  refine aa H λv8 Hj H=>jA ⟨[(3,tP 0),(4,tP 1),(5,tP 2),(6,tP 3),(9,tB (ltB 0 (r3.aw.aA.length:Int)))],(oM [.w 4,.w 5,.w 6] 0 75 (c7 {r3 with dX:=v8,bU:=r7.2})++(oM [.w 7] 1 57 (cq r7.1)++[(2,.var 26 [.d false (.l (a2.a8.map dK))]),(3,.var 195 (kM [.z,.z,.z,.z,.z,.z] (bD cj)))])),8⟩ ?_ ?_
  .refine cC Hj ?_ ?_<;>intro H
   .refine aa H λr9 q9 H=>nA (ca (hF:=J7.h q9)) ?_
    exact ai H
   exact ai H
  refine cC H ?_ ?_<;>intro H
  .refine aa H λr10 q10 H=>nA (ca (hF:=Gm.h q10)) ?_
   exact ao H
  refine aa H λv11 Hj H=>jR ⟨[(3,tP 0),(4,tP 1),(6,tP 3),(9,tB (ltB 0 (r3.aw.aA.length:Int))),(10,.v (.c (.w 8 (([]:List ax).length)))),(61,tB v11)],(oM [.w 4,.w 5,.w 6] 0 75 (c7 {r3 with dX:=v8,bU:=r7.2})++(oM [.w 7] 1 57 (cq r7.1)++[(3,.var 195 (kM [.z,.z,.z,.z,.z,.z] (bD cj))),(8,w47 ([]:List ax))])),9⟩ ?_ ?_
  .exact az Hj
  obtain⟨⟨v12,v13⟩,Hj,H⟩:=ob H
  refine jA ⟨[(3,tP 0),(4,tP 1),(6,tP 3),(10,.v (.c (.w 8 v12.length)))],(oM [.w 4,.w 5,.w 6] 0 75 (c7 {r3 with dX:=v8,dP:=v13,bU:=r7.2})++(oM [.w 7] 1 57 (cq r7.1)++[(3,.var 195 (kM [.z,.z,.z,.z,.z,.z] (bD cj))),(8,w47 v12)])),9⟩ ?_ ?_
  .refine cC Hj ?_ ?_<;>intro H
   .exact ai H
   obtain⟨⟨v14,v15⟩,Hj,H⟩:=ob H
   refine jA ⟨[(3,tP 0),(4,tP 1),(6,tP 3),(10,.v (.c (.w 9 v14.length)))],(oM [.w 4,.w 5,.w 6] 0 75 (c7 {r3 with dX:=v8,dP:=v15,bU:=r7.2})++(oM [.w 7] 1 57 (cq r7.1)++[(3,.var 195 (kM [.z,.z,.z,.z,.z,.z] (bD cj))),(9,w47 v14)])),10⟩ ?_ ?_
   .refine cC Hj ?_ ?_<;>intro H
    .refine aa H λr16 q16 H=>nA (ca (hF:=zQ.h q16)) ?_
     exact ai H
    cases H
    refine an (uI (nx':=10) rfl) ?_
    refine an (wS 9 8) ?_
    exact wo
   cases H
   refine an (wS 8 9) ?_
   exact wo
  refine aa H λr17 q17 H=>nA (ca (hF:=F3.h q17)) ?_
  obtain⟨h,H⟩:=rq H
  refine sA (apT (enc:=db) (ys:=v12) (zs:=r17.cA) h) ?_
  exact ao H
 refine aa H λv18 Hj H=>jA ⟨[(3,tP 0),(4,tP 1),(5,tP 2),(6,tP 3),(9,tB (ltB 0 (r3.aw.aA.length:Int)))],(oM [.w 4,.w 5,.w 6] 0 75 (c7 {r3 with dX:=v18})++[(1,.var 57 (kM [.f] (cq a1))),(2,.var 26 [.d false (.l (a2.a8.map dK))]),(3,.var 195 (kM [.z,.z,.z,.z,.z,.z] (bD cj)))]),7⟩ ?_ ?_
 .refine cC Hj ?_ ?_<;>intro H
  .refine aa H λr19 q19 H=>nA (ca (hF:=J7.h q19)) ?_
   exact ai H
  exact ai H
 refine cC H ?_ ?_<;>intro H
 .refine aa H λr20 q20 H=>nA (ca (hF:=Gm.h q20)) ?_
  exact ao H
 refine aa H λv21 Hj H=>jR ⟨[(3,tP 0),(4,tP 1),(6,tP 3),(9,tB (ltB 0 (r3.aw.aA.length:Int))),(10,.v (.c (.w 7 (([]:List ax).length)))),(61,tB v21)],(oM [.w 4,.w 5,.w 6] 0 75 (c7 {r3 with dX:=v18})++[(1,.var 57 (kM [.f] (cq a1))),(3,.var 195 (kM [.z,.z,.z,.z,.z,.z] (bD cj))),(7,w47 ([]:List ax))]),8⟩ ?_ ?_
 .exact az Hj
 obtain⟨⟨v22,v23⟩,Hj,H⟩:=ob H
 refine jA ⟨[(3,tP 0),(4,tP 1),(6,tP 3),(10,.v (.c (.w 7 v22.length)))],(oM [.w 4,.w 5,.w 6] 0 75 (c7 {r3 with dX:=v18,dP:=v23})++[(1,.var 57 (kM [.f] (cq a1))),(3,.var 195 (kM [.z,.z,.z,.z,.z,.z] (bD cj))),(7,w47 v22)]),8⟩ ?_ ?_
 .refine cC Hj ?_ ?_<;>intro H
  .exact ai H
  obtain⟨⟨v24,v25⟩,Hj,H⟩:=ob H
  refine jA ⟨[(3,tP 0),(4,tP 1),(6,tP 3),(10,.v (.c (.w 8 v24.length)))],(oM [.w 4,.w 5,.w 6] 0 75 (c7 {r3 with dX:=v18,dP:=v25})++[(1,.var 57 (kM [.f] (cq a1))),(3,.var 195 (kM [.z,.z,.z,.z,.z,.z] (bD cj))),(8,w47 v24)]),9⟩ ?_ ?_
  .refine cC Hj ?_ ?_<;>intro H
   .refine aa H λr26 q26 H=>nA (ca (hF:=zQ.h q26)) ?_
    exact ai H
   cases H
   refine an (uI (nx':=9) rfl) ?_
   refine an (wS 8 7) ?_
   exact wo
  cases H
  refine an (wS 7 8) ?_
  exact wo
 refine aa H λr27 q27 H=>nA (ca (hF:=F3.h q27)) ?_
 obtain⟨h,H⟩:=rq H
 refine sA (apT (enc:=db) (ys:=v22) (zs:=r27.cA) h) ?_
 cases H
 exact bX⟩
def my (a0:ah) (a1:aH):Option bI:=
 abU (bif leB a0.bL 0 then(some true) else(bif !eqB a1.ag a0.bL then(some true) else(abU (pU a0.aK a1.bW) λr2=>bif !r2 then(some true) else(some (leB 999999 a0.aX))))) λ(v1:Bool)=>bif v1 then(abU (pk a0) λr3=>some r3) else(abU (jo a0) λr4=>abU (tj (⟨r4.bE,r4.gG,1,cr,0,a0.bL,a0.aK.fo,WR (a0.aX+1),a1.bg,0,ed,r4.aG,r4.aw,r4.dP,r4.bU⟩:ah) 4) λr5=>some r5)
instance Aq {a0:ah} {a1:aH} {r:bI}:FC prog (my a0 a1=some r) 354 [.agg (bZ a0),.agg (cZ a1)] [.agg (qM [.d,.d,.d,.o] (eh r))]:=⟨λH=>by
 refine fI func354 ntmps354 ?_
 refine aa H λv1 Hj H=>jR ⟨[(2,tP 0),(3,tP 1),(4,tP 2),(28,tB v1)],[(0,.var 75 (kM [.f,.f,.f] (c7 a0))),(1,.var 43 (kM [] (dt a1))),(2,.var 184 (kM [.z,.z,.z,.z] (eh DD)))],3⟩ ?_ ?_
 .refine gC Hj ?_ ?_<;>intro H
  .exact ai H
  refine gC H ?_ ?_<;>intro H
  .exact ai H
  refine aa H λr2 q2 H=>nG (ca (hF:=N5.h q2)) ?_
  exact az H
 refine cC H ?_ ?_<;>intro H
 .refine aa H λr3 q3 H=>nA (ca (hF:=Ax.h q3)) ?_
  cases H
  refine dR (aV (o:=3)) ?_
  refine dR (aV (o:=4)) ?_
  refine dR (aV (o:=5)) ?_
  refine dR (cz (o:=2)) ?_
  exact bX
 refine aa H λr4 q4 H=>nA (ca (hF:=wQ.h q4)) ?_
 refine aa H λr5 q5 H=>bG (aV (o:=3)) ?_
 refine bG (aV (o:=4)) ?_
 refine bG (aV (o:=5)) ?_
 refine bG (bN (k:=54)) ?_
 refine sA (cwu [] [(210,7)] 8 (FnV.up (Kk q5) rfl rfl)) ?_
 cases H
 exact bX⟩
def kx (a0:ah) (a1:aH):Option bI:=
 abU (vL a0 a1) λr1=>abU (bif !r1 then(some true) else(bif ltB a1.aX a0.aX then(some true) else(bif eqB a1.aX a0.aX then(some (!eqB a1.bg a0.bg)) else(some false)))) λ(v2:Bool)=>bif v2 then(abU (pk a0) λr3=>some r3) else(abU (jo a0) λr4=>abU (tj {r4 with aX:=a1.aX,bg:=a1.bg,dX:=0,gr:=ed,dP:=0} 6) λr5=>some r5)
instance yq {a0:ah} {a1:aH} {r:bI}:FC prog (kx a0 a1=some r) 355 [.agg (bZ a0),.agg (cZ a1)] [.agg (qM [.d,.d,.d,.o] (eh r))]:=⟨λH=>by
 refine fI func355 ntmps355 ?_
 refine aa H λr1 q1 H=>nA (ca (hF:=Mw.h q1)) ?_
 refine aa H λv2 Hj H=>jR ⟨[(2,tP 0),(3,tP 1),(4,tP 2),(30,tB v2)],[(0,.var 75 (kM [.f,.f,.f] (c7 a0))),(1,.var 43 (kM [] (dt a1))),(2,.var 184 (kM [.z,.z,.z,.z] (eh DD)))],3⟩ ?_ ?_
 .exact az Hj
 refine cC H ?_ ?_<;>intro H
 .refine aa H λr3 q3 H=>nA (ca (hF:=Ax.h q3)) ?_
  cases H
  refine dR (aV (o:=3)) ?_
  refine dR (aV (o:=4)) ?_
  refine dR (aV (o:=5)) ?_
  refine dR (cz (o:=2)) ?_
  exact bX
 refine aa H λr4 q4 H=>nA (ca (hF:=wQ.h q4)) ?_
 refine aa H λr5 q5 H=>bG (aV (o:=3)) ?_
 refine bG (aV (o:=4)) ?_
 refine bG (aV (o:=5)) ?_
 refine bG (bN (k:=45)) ?_
 refine sA (cwu [] [(210,7)] 8 (FnV.up (Kk q5) rfl rfl)) ?_
 cases H
 exact bX⟩
def nB (a0:ah) (a1:aH):Option bI:=
 abU (vL a0 a1) λr1=>abU (bif !r1 then(some true) else(some (ltB a0.aw.bB a1.bW))) λ(v2:Bool)=>bif v2 then(abU (pk a0) λr3=>some r3) else(abU (jo a0) λr4=>abU (lv a0.aw a1.bW) λr5=>abU (pV a0.aw.aA) λr6=>abU (pV r5.aA) λr7=>abU (qd a0.bU (WR (r6-r7))) λr8=>some (⟨{r4 with dX:=0,aw:=r5,bU:=r8.1},([]:List aH)⟩:bI))
instance BE {a0:ah} {a1:aH} {r:bI}:FC prog (nB a0 a1=some r) 356 [.agg (bZ a0),.agg (cZ a1)] [.agg (qM [.o,.o,.o,.o] (eh r))]:=gF func356 ntmps356 (hb 12 19) (hz 5)
def qf (a0:aJ) (a1:ax):Option aY:=
 abU (wF a0.aZ a0.ag a0.aX a1) λr1=>abU (bif !eqB a0.bi 2 then(some true) else(some (!r1.2))) λ(v2:Bool)=>bif v2 then(abU (th a0) λr3=>some r3) else(abU (kS a0) λr4=>abU (o7 a0.bY r1.1) λr5=>abU (ke a0.aZ (⟨8,a0.bg,a0.ag,a0.aX,r5.bB,cr,0⟩:aH)) λr6=>some (⟨{r4 with bY:=r5},[r6]⟩:aY))
instance DB {a0:aJ} {a1:ax} {r:aY}:FC prog (qf a0 a1=some r) 327 [.agg (c9 a0),.agg (db a1)] [.agg (qM [.d,.o,.o] (cd r))]:=⟨λH=>by
 refine fI func327 ntmps327 ?_
 refine aa H λr1 q1 H=>nA (ca (hF:=J9.h q1)) ?_
 refine aa H λv2 Hj H=>jR ⟨[(2,tP 0),(4,tP 2),(5,tP 3),(26,tB v2)],[(0,.var 93 (kM [.f,.f] (dF a0))),(2,.var 189 (kM [.z,.z,.z] (cd d5))),(3,.var 131 (kM [.t] (dh r1.1)))],4⟩ ?_ ?_
 .exact az Hj
 refine cC H ?_ ?_<;>intro H
 .refine aa H λr3 q3 H=>nA (ca (hF:=wO.h q3)) ?_
  cases H
  refine dR (aV (o:=4)) ?_
  refine dR (cz (o:=2)) ?_
  exact bX
 refine aa H λr4 q4 H=>nA (ca (hF:=nT.h q4)) ?_
 refine aa H λr5 q5 H=>nA (ca (hF:=CA.h q5)) ?_
 refine aa H λr6 q6 H=>nA (ca (hF:=qh.h q6)) ?_
 cases H
 refine dR (wB 9 [r6].length) ?_
 exact bX⟩
def yx (a0:aJ):Option aY:=
 abU (vK {a0 with aX:=WR (a0.aX+1),cy:=false}) λr1=>abU (nj {a0 with aX:=WR (a0.aX+1),cy:=false} r1) λr2=>some r2
theorem Gk {a0:aJ} {r:aY} (H:yx a0=some r):FnV prog 329 [] [.v (.agg (kM [.f,.f] (dF a0)))] [] (.v (.agg (kM [.f,.f,.w 210] (cd r)))) [(210,w43 r.dE)]:=by
 refine fV func329 ntmps329 ?_
 refine zI (List.range 5) ?_
 refine aa H λr1 q1 H=>zA (ca (hF:=Aw.h q1)) ?_
 refine aa H λr2 q2 H=>zB bK (fQ rfl (cwv [] [(210,212)] 213 (ti q2))) bK ?_
 refine wA (spx 100454) ?_
 cases H
 refine bF (wS 212 210) ?_
 exact cg
end Go.AM
