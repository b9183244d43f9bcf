/- A part. -/
import Derived.Test.YtcfhabdgiieejaaGreatS8
set_option linter.unusedVariables false
open Option renaming bind->abJ
namespace Go.AM
open Go.Proofs
open Tryz
attribute [local irreducible] AWN NS AWO AWR AWC DR DZ dQ f9 iter
set_option maxRecDepth 100000
set_option maxHeartbeats 40000000
def zk (a0:bk) (a1:ab):Option (cX×bk):=
 abJ (cH a0 (a1.aw.length:Int)) λr1=>abJ (ix a1.aw r1.1) λx2=>abJ (cH r1.2 (a1.ev.bb.length:Int)) λr3=>abJ (i8 r3.2 2) λr4=>abJ (cH r4.2 3) λr5=>abJ (bif eqB r5.1 0 then(abJ (cH r5.2 9) λr30=>abJ (tc x2.aZ x2.ag x2.aV (⟨WR (1+r30.1),[9]⟩:ae)) λr31=>some (r30.2,(⟨r1.1,false,true,r3.1,d9,{r31 with bz:={r31.bz with iK:=Int.tmod (WR (r31.bz.iK+1)) 2147483647}}⟩:bM))) else(abJ (bif eqB r5.1 1 then(abJ (DM r5.2 x2) λr49=>some (false,r49.2,r49.1)) else(abJ (ix a1.aA r1.1) λx50=>abJ (wO r5.2 x50) λr51=>some (true,r51.2,r51.1))) λ((v35,v47,v48):Bool×bk×aF)=>some (v47,(⟨r1.1,v35,false,r3.1,v48,eB⟩:bM)))) λ((v28,v29):bk×bM)=>abJ (nJ a1 {ed with a8:=13,bD:=v29}) λr52=>abJ (bif !r52 then(some 7) else(some v29.bg.a8)) λ(v53:Int)=>some ({ed with a8:=13,bD:={v29 with bg:={v29.bg with a8:=v53}}},v28)
instance Md {a0:bk} {a1:ab} {r:cX×bk}:FCV prog (zk a0 a1=some r) 156 [(200,.var 125 (kM [.f] (cj a0)))] [tP 200,.v (.agg (kM [.f,.f,.f,.f,.f] (bw a1)))] [(200,.var 125 (kM [.f] (cj r.2)))] (.v (.agg (kM [.z,.n 210] (dV {r.1 with a9:=[]})))) [(210,n5 r.1.bD.co.bz.a9)]:=⟨λH=>by
 refine fV func156 ntmps156 ?_
 refine aa H λr1 q1 H=>sA (cw (o:=200) (cm q1)) ?_
 refine aa H λx2 hx2 H=>nA (xdT (enc:=cF) hx2) ?_
 refine aa H λr3 q3 H=>sA (cw (o:=200) (cm q3)) ?_
 refine aa H λr4 q4 H=>sA (cw (o:=200) (iN q4)) ?_
 refine aa H λr5 q5 H=>sA (cw (o:=200) (cm q5)) ?_
 obtain⟨⟨v28,v29⟩,Hj,H⟩:=ob H
 refine jA ⟨[(3,tP 210),(4,tP 211),(7,tP 213)],(oM [.n 215] 213 48 (jE v29)++[(200,.var 125 (kM [.f] (cj v28))),(210,.var 34 (kM [.f,.f,.f,.f,.f] (bw a1))),(211,.var 50 (kM [.z,.z] (dV ed)))]),216⟩ ?_ ?_
 .refine cC Hj ?_ ?_<;>intro H
  .refine zI (List.range 14) ?_
   refine aa H λr30 q30 H=>wA (cwx (o:=200) (cm q30)) ?_
   refine aa H λr31 q31 H=>zA (ca (hF:=JR.h q31)) ?_
   refine wA (spx 100500) ?_
   refine nA (ir rfl rfl rfl (by decide)) ?_
   cases H
   refine am (d8 215) ?_
   refine am (wB 214 [9].length) ?_
   exact wo
  obtain⟨⟨v35,v47,v48⟩,Hj,H⟩:=ob H
  refine jA ⟨[(3,tP 210),(4,tP 211),(7,tP 213)],[(200,.var 125 (kM [.f] (cj v47))),(210,.var 34 (kM [.f,.f,.f,.f,.f] (bw a1))),(211,.var 50 (kM [.z,.z] (dV ed))),(213,.var 48 (kM [.z] (jE (⟨r1.1,v35,false,r3.1,v48,eB⟩:bM))))],214⟩ ?_ ?_
  .refine cC Hj ?_ ?_<;>intro H
   .refine aa H λr49 q49 H=>sA (cw (o:=200) (RU q49)) ?_
    exact ai H
   refine aa H λx50 hx50 H=>nA (xdT (enc:=bS) hx50) ?_
   refine aa H λr51 q51 H=>sA (cw (o:=200) (JY q51)) ?_
   exact ai H
  cases H
  refine am (dE (o:=213) (j:=19) 5 1 true) ?_
  refine am (wB 214 (([]:List Int).length)) ?_
  refine am (uI (nx':=216) rfl) ?_
  refine am (wS 215 214) ?_
  exact wo
 refine aa H λr52 q52 H=>nA (ca (hF:=uW.h q52)) ?_
 refine aa H λv53 Hj H=>jA ⟨[(4,tP 211),(8,tP 216)],(oM [.z,.n 215] 216 50 (dV {ed with a8:=13,bD:={v29 with bg:={v29.bg with a8:=v53}}})++[(200,.var 125 (kM [.f] (cj v28))),(211,.var 50 (kM [.z,.z] (dV ed)))]),217⟩ ?_ ?_
 .exact az Hj
 cases H
 refine bA (wS 215 210) ?_
 exact bj⟩
def rW (a0:ah) (a1:aj) (a2:aS):Option bO:=
 abJ (yC a0) λr1=>bif r1 then(abJ (tl a0 a1) λr2=>some r2) else(abJ (i9 a0) λr3=>bif leB r3.gT.eD r3.b9.em then(abJ (rS a1 r3.b9) λr7=>abJ (bif ltB 0 (r3.ax.aC.length:Int) then(abJ (FD 5 (WR (r3.dT+1))) λr9=>some r9) else(some 0)) λ(v8:Int)=>bif ltB 4 v8 then(abJ (yD {r3 with dT:=v8,b9:=r7.2} r7.1 a2) λr10=>some r10) else(abJ (bif ltB 0 (r3.ax.aC.length:Int) then(some (ltB 0 r3.dP)) else(some false)) λ(v11:Bool)=>abJ (bif v11 then(some (([]:List av),WR (r3.dP-1))) else(abJ (bif ltB 0 (r3.ax.aC.length:Int) then(abJ (nK {r3 with dT:=v8,dP:=3,b9:=r7.2}) λr16=>some (r16,3)) else(some (([]:List av),r3.dP))) λ((v14,v15):List av×Int)=>some (v14,v15))) λ((v12,v13):List av×Int)=>abJ (yx {r3 with dT:=v8,dP:=v13,b9:=r7.2} r7.1) λr17=>bif da 64 (v12++r17.co).length then(some {r17 with co:=(v12++r17.co)}) else none)) else(abJ (bif ltB 0 (r3.ax.aC.length:Int) then(abJ (FD 5 (WR (r3.dT+1))) λr19=>some r19) else(some 0)) λ(v18:Int)=>bif ltB 4 v18 then(abJ (yD {r3 with dT:=v18} a1 a2) λr20=>some r20) else(abJ (bif ltB 0 (r3.ax.aC.length:Int) then(some (ltB 0 r3.dP)) else(some false)) λ(v21:Bool)=>abJ (bif v21 then(some (([]:List av),WR (r3.dP-1))) else(abJ (bif ltB 0 (r3.ax.aC.length:Int) then(abJ (nK {r3 with dT:=v18,dP:=3}) λr26=>some (r26,3)) else(some (([]:List av),r3.dP))) λ((v24,v25):List av×Int)=>some (v24,v25))) λ((v22,v23):List av×Int)=>abJ (yx {r3 with dT:=v18,dP:=v23} a1) λr27=>bif da 64 (v22++r27.co).length then(some {r27 with co:=(v22++r27.co)}) else none)))
instance FQ {a0:ah} {a1:aj} {a2:aS} {r:bO}:FC prog (rW a0 a1 a2=some r) 258 [.agg (bS a0),.agg (cM a1),.agg (ge a2)] [.agg (qM [.o,.o,.o,.o,.o,.o] (bB r))]:=⟨λH=>by
 refine fI func258 ntmps258 ?_
 refine aa H λr1 q1 H=>nA (ca (hF:=F6.h q1)) ?_
 refine cC H ?_ ?_<;>intro H
 .refine aa H λr2 q2 H=>nA (ca (hF:=AC.h q2)) ?_
  exact ao H
 refine aa H λr3 q3 H=>nA (ca (hF:=AB.h q3)) ?_
 refine cC H ?_ ?_<;>intro H
 .refine aa H λr7 q7 H=>nA (ca (hF:=FJ.h q7)) ?_
  refine aa H λv8 Hj H=>jA ⟨[(3,tP 0),(4,tP 1),(5,tP 2),(6,tP 3),(9,tB (ltB 0 (r3.ax.aC.length:Int)))],(oM [.w 4,.w 5,.w 6] 0 93 (c7 {r3 with dT:=v8,b9:=r7.2})++(oM [.w 7] 1 107 (ct r7.1)++[(2,.var 26 [.d false (.l (a2.bb.map eO))]),(3,.var 174 (kM [.z,.z,.z,.z,.z,.z] (bB ci)))])),10⟩ ?_ ?_
  .refine cC Hj ?_ ?_<;>intro H
   .refine aa H λr9 q9 H=>nA (ca (hF:=JO.h q9)) ?_
    exact ai H
   exact ai H
  refine cC H ?_ ?_<;>intro H
  .refine aa H λr10 q10 H=>nA (ca (hF:=F7.h q10)) ?_
   exact ao H
  refine aa H λv11 Hj H=>jR ⟨[(3,tP 0),(4,tP 1),(6,tP 3),(9,tB (ltB 0 (r3.ax.aC.length:Int))),(10,.v (.c (.w 10 (([]:List av).length)))),(61,tB v11)],(oM [.w 4,.w 5,.w 6] 0 93 (c7 {r3 with dT:=v8,b9:=r7.2})++(oM [.w 7] 1 107 (ct r7.1)++[(3,.var 174 (kM [.z,.z,.z,.z,.z,.z] (bB ci))),(10,w46 ([]:List av))])),11⟩ ?_ ?_
  .exact az Hj
  obtain⟨⟨v12,v13⟩,Hj,H⟩:=ob H
  refine jA ⟨[(3,tP 0),(4,tP 1),(6,tP 3),(10,.v (.c (.w 10 v12.length)))],(oM [.w 4,.w 5,.w 6] 0 93 (c7 {r3 with dT:=v8,dP:=v13,b9:=r7.2})++(oM [.w 7] 1 107 (ct r7.1)++[(3,.var 174 (kM [.z,.z,.z,.z,.z,.z] (bB ci))),(10,w46 v12)])),11⟩ ?_ ?_
  .refine cC Hj ?_ ?_<;>intro H
   .exact ai H
   obtain⟨⟨v14,v15⟩,Hj,H⟩:=ob H
   refine jA ⟨[(3,tP 0),(4,tP 1),(6,tP 3),(10,.v (.c (.w 11 v14.length)))],(oM [.w 4,.w 5,.w 6] 0 93 (c7 {r3 with dT:=v8,dP:=v15,b9:=r7.2})++(oM [.w 7] 1 107 (ct r7.1)++[(3,.var 174 (kM [.z,.z,.z,.z,.z,.z] (bB ci))),(11,w46 v14)])),12⟩ ?_ ?_
   .refine cC Hj ?_ ?_<;>intro H
    .refine aa H λr16 q16 H=>nA (ca (hF:=zX.h q16)) ?_
     exact ai H
    cases H
    refine am (uI (nx':=12) rfl) ?_
    refine am (wS 11 10) ?_
    exact wo
   cases H
   refine am (wS 10 11) ?_
   exact wo
  refine aa H λr17 q17 H=>nA (ca (hF:=FL.h q17)) ?_
  obtain⟨h,H⟩:=rq H
  refine sA (apT (enc:=cN) (ys:=v12) (zs:=r17.co) h) ?_
  exact ao H
 refine aa H λv18 Hj H=>jA ⟨[(3,tP 0),(4,tP 1),(5,tP 2),(6,tP 3),(9,tB (ltB 0 (r3.ax.aC.length:Int)))],(oM [.w 4,.w 5,.w 6] 0 93 (c7 {r3 with dT:=v18})++[(1,.var 107 (kM [.f] (ct a1))),(2,.var 26 [.d false (.l (a2.bb.map eO))]),(3,.var 174 (kM [.z,.z,.z,.z,.z,.z] (bB ci)))]),7⟩ ?_ ?_
 .refine cC Hj ?_ ?_<;>intro H
  .refine aa H λr19 q19 H=>nA (ca (hF:=JO.h q19)) ?_
   exact ai H
  exact ai H
 refine cC H ?_ ?_<;>intro H
 .refine aa H λr20 q20 H=>nA (ca (hF:=F7.h q20)) ?_
  exact ao H
 refine aa H λv21 Hj H=>jR ⟨[(3,tP 0),(4,tP 1),(6,tP 3),(9,tB (ltB 0 (r3.ax.aC.length:Int))),(10,.v (.c (.w 7 (([]:List av).length)))),(61,tB v21)],(oM [.w 4,.w 5,.w 6] 0 93 (c7 {r3 with dT:=v18})++[(1,.var 107 (kM [.f] (ct a1))),(3,.var 174 (kM [.z,.z,.z,.z,.z,.z] (bB ci))),(7,w46 ([]:List av))]),8⟩ ?_ ?_
 .exact az Hj
 obtain⟨⟨v22,v23⟩,Hj,H⟩:=ob H
 refine jA ⟨[(3,tP 0),(4,tP 1),(6,tP 3),(10,.v (.c (.w 7 v22.length)))],(oM [.w 4,.w 5,.w 6] 0 93 (c7 {r3 with dT:=v18,dP:=v23})++[(1,.var 107 (kM [.f] (ct a1))),(3,.var 174 (kM [.z,.z,.z,.z,.z,.z] (bB ci))),(7,w46 v22)]),8⟩ ?_ ?_
 .refine cC Hj ?_ ?_<;>intro H
  .exact ai H
  obtain⟨⟨v24,v25⟩,Hj,H⟩:=ob H
  refine jA ⟨[(3,tP 0),(4,tP 1),(6,tP 3),(10,.v (.c (.w 8 v24.length)))],(oM [.w 4,.w 5,.w 6] 0 93 (c7 {r3 with dT:=v18,dP:=v25})++[(1,.var 107 (kM [.f] (ct a1))),(3,.var 174 (kM [.z,.z,.z,.z,.z,.z] (bB ci))),(8,w46 v24)]),9⟩ ?_ ?_
  .refine cC Hj ?_ ?_<;>intro H
   .refine aa H λr26 q26 H=>nA (ca (hF:=zX.h q26)) ?_
    exact ai H
   cases H
   refine am (uI (nx':=9) rfl) ?_
   refine am (wS 8 7) ?_
   exact wo
  cases H
  refine am (wS 7 8) ?_
  exact wo
 refine aa H λr27 q27 H=>nA (ca (hF:=FL.h q27)) ?_
 obtain⟨h,H⟩:=rq H
 refine sA (apT (enc:=cN) (ys:=v22) (zs:=r27.co) h) ?_
 cases H
 exact dM⟩
def kf (a0:ah) (a1:aF):Option bN:=
 abJ (vJ a0 a1) λr1=>abJ (bif !r1 then(some true) else(bif ltB a1.aV a0.aV then(some true) else(bif eqB a1.aV a0.aV then(some (!eqB a1.bh a0.bh)) else(some false)))) λ(v2:Bool)=>bif v2 then(abJ (o6 a0) λr3=>some r3) else(abJ (i9 a0) λr4=>abJ (tk {r4 with aV:=a1.aV,bh:=a1.bh,dT:=0,ga:=et,dP:=0} 6) λr5=>some r5)
instance LX {a0:ah} {a1:aF} {r:bN}:FC prog (kf a0 a1=some r) 371 [.agg (bS a0),.agg (cU a1)] [.agg (qM [.d,.d,.d,.o] (ef r))]:=gF func371 ntmps371 (hb 10 30)
def nf (a0:ah) (a1:aF):Option bN:=
 abJ (vJ a0 a1) λr1=>abJ (bif !r1 then(some true) else(some (ltB a0.ax.bE a1.bV))) λ(v2:Bool)=>bif v2 then(abJ (o6 a0) λr3=>some r3) else(abJ (i9 a0) λr4=>abJ (lf a0.ax a1.bV) λr5=>abJ (pJ a0.ax.aC) λr6=>abJ (pJ r5.aC) λr7=>abJ (p6 a0.b9 (WR (r6-r7))) λr8=>some (⟨{r4 with dT:=0,ax:=r5,b9:=r8.1},([]:List aF)⟩:bN))
instance PY {a0:ah} {a1:aF} {r:bN}:FC prog (nf a0 a1=some r) 372 [.agg (bS a0),.agg (cU a1)] [.agg (qM [.o,.o,.o,.o] (ef r))]:=gF func372 ntmps372 (hb 12 19) (hz 5)
def oW (a0:ah) (a1:aF):Option bN:=
 abJ (lN a1) λr1=>bif !r1 then(abJ (o6 a0) λr2=>some r2) else(bif eqB a1.a8 1 then(abJ (oT a0 a1) λr3=>some r3) else(bif eqB a1.a8 3 then(abJ (mf a0 a1) λr4=>some r4) else(bif eqB a1.a8 5 then(abJ (kf a0 a1) λr5=>some r5) else(bif eqB a1.a8 8 then(abJ (nf a0 a1) λr6=>some r6) else(abJ (o6 a0) λr7=>some r7)))))
instance Cy {a0:ah} {a1:aF} {r:bN}:FC prog (oW a0 a1=some r) 333 [.agg (bS a0),.agg (cU a1)] [.agg (qM [.d,.d,.d,.o] (ef r))]:=gF func333 ntmps333
def p8 (a0:aG) (a1:av):Option aX:=
 abJ (wE a0.aZ a0.ag a0.aV a1) λr1=>abJ (bif !eqB a0.bp 2 then(some true) else(some (!r1.2))) λ(v2:Bool)=>bif v2 then(abJ (tj a0) λr3=>some r3) else(abJ (kE a0) λr4=>abJ (oU a0.bW r1.1) λr5=>abJ (jO a0.aZ (⟨8,a0.bh,a0.ag,a0.aV,r5.bE,cp,0⟩:aF)) λr6=>some (⟨{r4 with bW:=r5},[r6]⟩:aX))
instance Dr {a0:aG} {a1:av} {r:aX}:FC prog (p8 a0 a1=some r) 334 [.agg (cF a0),.agg (cN a1)] [.agg (qM [.d,.o,.o] (dm r))]:=gF func334 ntmps334 (hb 23 26)
def yB (a0:aG):Option aX:=
 abJ (vI {a0 with aV:=WR (a0.aV+1),cq:=false}) λr1=>abJ (mS {a0 with aV:=WR (a0.aV+1),cq:=false} r1) λr2=>some r2
instance sl29Next_c {a0:aG} {r:aX}:FCV prog (yB a0=some r) 336 [] [.v (.agg (kM [.f,.f] (gD a0)))] [] (.v (.agg (kM [.f,.f,.w 210] (dm r)))) [(210,w42 r.dy)]:=⟨λH=>by
 refine fV func336 ntmps336 ?_
 refine zI (List.range 5) ?_
 refine aa H λr1 q1 H=>zA (ca (hF:=N5.h q1)) ?_
 refine aa H λr2 q2 H=>zB bC (fg rfl (cwv [] [(210,212)] 213 (N6.h q2))) bC ?_
 refine wA (spx 100624) ?_
 cases H
 refine bA (wS 212 210) ?_
 exact bj⟩
end Go.AM
