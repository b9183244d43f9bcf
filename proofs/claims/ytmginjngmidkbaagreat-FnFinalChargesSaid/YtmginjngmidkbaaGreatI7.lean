/- A part. -/
import Derived.Test.YtmginjngmidkbaaGreatI6
set_option linter.unusedVariables false
open Option renaming bind->abU
namespace Go.AM
open Go.Proofs
open Tryz
attribute [local irreducible] AWN NS AWO AWR AWC DR DZ dS gp iter
set_option maxRecDepth 100000
set_option maxHeartbeats 40000000
variable {r:Go.AM.aY}
def kr (a0:ah) (a1:aH):Option bI:=
 abU (bif !eqB a0.bi 1 then(some true) else(bif !eqB a1.ag a0.ag then(some true) else(abU (ju a0.aZ a1) λr2=>some (!r2)))) λ(v1:Bool)=>bif v1 then(abU (dL a0 []) λr3=>some r3) else(abU (bif ltB a1.aX a0.aX then(some true) else(bif eqB a1.aX a0.aX then(some (!eqB a1.bg a0.bg)) else(some false))) λ(v4:Bool)=>bif v4 then(abU (dL a0 []) λr5=>some r5) else(abU (mW {a0 with aX:=a1.aX,bg:=a1.bg,dX:=0,gr:=ed,dP:=0} 6) λr6=>abU (dL {a0 with aX:=a1.aX,bg:=a1.bg,dX:=0,gr:=ed,dP:=0} [r6]) λr7=>some r7))
instance Ls {a0:ah} {a1:aH} {r:bI}:FC prog (kr a0 a1=some r) 226 [.agg (bZ a0),.agg (cZ a1)] [.agg (qM [.o,.o,.o,.o] (eh r))]:=gF func226 ntmps226 (hb 8 21) (hb 29 42) (hz 10)
def oE (a0:ah) (a1:aH):Option bI:=
 abU (lH a1) λr1=>bif r1 then(bif eqB a1.bh 1 then(abU (oB a0 a1) λr2=>some r2) else(bif eqB a1.bh 3 then(abU (mh a0 a1) λr3=>some r3) else(bif eqB a1.bh 5 then(abU (kr a0 a1) λr4=>some r4) else(bif eqB a1.bh 8 then(abU (nu a0 a1) λr5=>some r5) else(abU (dL a0 []) λr6=>some r6))))) else(abU (dL a0 []) λr7=>some r7)
instance Ck {a0:ah} {a1:aH} {r:bI}:FC prog (oE a0 a1=some r) 144 [.agg (bZ a0),.agg (cZ a1)] [.agg (qM [.o,.o,.o,.o] (eh r))]:=gF func144 ntmps144
def p6 (a0:aJ) (a1:ax):Option aY:=
 bif !eqB a0.bi 2 then(abU (cV a0 []) λr1=>some r1) else(abU (sO a0.aZ a0.ag a0.aX a1) λr2=>bif r2.2 then(abU (oC a0.bY r2.1) λr3=>abU (nW a0.aZ (⟨8,a0.bg,a0.ag,a0.aX,r3.bB,cr,0⟩:aH)) λr4=>abU (cV {a0 with bY:=r3} [r4]) λr5=>some r5) else(abU (cV a0 []) λr6=>some r6))
instance Dp {a0:aJ} {a1:ax} :FC prog (p6 a0 a1=some r) 147 [.agg (c9 a0),.agg (db a1)] [.agg (qM [.o,.o,.o] (cd r))]:=⟨λH=>by
 refine fI func147 ntmps147 ?_
 refine cC H ?_ ?_<;>intro H
 .refine aa H λr1 q1 H=>nA (ca (hF:=fN.h q1)) ?_
  exact ao H
 obtain⟨r2,q2,H⟩:=ob H
 rcases hb:r2.2 with _|_
 .have H:=bf hb H
  refine tH rfl (ca (hF:=GL q2 hb)) ?_
  simp only[hb]
  refine wI ?_
  refine aa H λr6 q6 H=>nA (ca (hF:=fN.h q6)) ?_
  exact ao H
 have H:=bt hb H
 refine tH rfl (ca (hF:=GM q2 hb)) ?_
 simp only[hb]
 refine wI ?_
 refine aa H λr3 q3 H=>nA (ca (hF:=Ci.h q3)) ?_
 refine qS [0,1,2,3,4,5,6,7] (h:=?_)
 refine wkb ?_
 refine aa H λr4 q4 H=>jP rfl (ca (hF:=GO.h q4)) ?_
 refine wkb ?_
 refine Cc rfl (bsx (bs rfl rfl rfl rfl rfl rfl rfl rfl) rfl) ?_
 refine wkb ?_
 refine aa H λr5 q5 H=>jP rfl (ca (hF:=fN.h q5)) ?_
 refine wkb ?_
 refine Cc rfl (spx 100522) ?_
 refine wkb ?_
 refine wI ?_
 cases H
 exact bX⟩
def iz (a0:aJ):Option aY:=
 abU (qx {a0 with cy:=false,fA:=3}) λr1=>abU (cV {a0 with cy:=false,fA:=3} [r1]) λr2=>some r2
instance xe {a0:aJ} :FC prog (iz a0=some r) 233 [.agg (c9 a0)] [.agg (qM [.o,.o,.o] (cd r))]:=gF func233 ntmps233 (hz 3)
def oD (a0:aJ) (a1:aH):Option aY:=
 abU (lH a1) λr1=>abU (bif !r1 then(some true) else(bif !eqB a1.bg a0.bg then(some true) else(some (eqB a0.bi 0)))) λ(v2:Bool)=>bif v2 then(abU (cV a0 []) λr3=>some r3) else(bif eqB a1.bh 2 then(bif eqB a0.bi 1 then(abU (mn a0 a1) λr4=>some r4) else(abU (cV a0 []) λr5=>some r5)) else(bif eqB a1.bh 4 then(abU (bif eqB a0.bi 1 then(abU (gQ a0.aZ) λr7=>bif r7 then(bif eqB a1.ag a0.ag then(abU (ju a0.aZ a1) λr8=>some r8) else(some false)) else(some false)) else(some false)) λ(v6:Bool)=>abU (bif v6 then(some {a0 with bi:=2,aX:=a1.aX,cy:=true}) else(some a0)) λ(v12:aJ)=>abU (cV v12 []) λr13=>some r13) else(bif eqB a1.bh 6 then(abU (bif eqB a0.bi 2 then(bif eqB a1.ag a0.ag then(bif eqB a1.aX a0.aX then(abU (ju a0.aZ a1) λr15=>some r15) else(some false)) else(some false)) else(some false)) λ(v14:Bool)=>abU (bif v14 then(some true) else(some a0.cy)) λ(v16:Bool)=>abU (cV {a0 with cy:=v16} []) λr17=>some r17) else(bif eqB a1.bh 7 then(abU (bif eqB a0.bi 3 then(some (ltB a0.aX 999999)) else(some false)) λ(v18:Bool)=>bif v18 then(abU (iz {a0 with bi:=2,aX:=WR (a0.aX+1)}) λr19=>some r19) else(bif eqB a0.bi 2 then(abU (iz a0) λr20=>some r20) else(abU (cV a0 []) λr21=>some r21))) else(abU (cV a0 []) λr22=>some r22)))))
instance Cj {a0:aJ} {a1:aH} :FC prog (oD a0 a1=some r) 148 [.agg (c9 a0),.agg (cZ a1)] [.agg (qM [.o,.o,.o] (cd r))]:=⟨λH=>by
 refine fI func148 ntmps148 ?_
 refine aa H λr1 q1 H=>nA (ca (hF:=Cg.h q1)) ?_
 refine aa H λv2 Hj H=>jR ⟨[(2,tP 0),(3,tP 1),(4,tP 2),(19,tB v2)],[(0,.var 93 (kM [.f,.f] (dF a0))),(1,.var 43 (kM [] (dt a1))),(2,.var 189 (kM [.z,.z,.z] (cd d5)))],3⟩ ?_ ?_
 .exact az Hj
 refine cC H ?_ ?_<;>intro H
 .refine aa H λr3 q3 H=>nA (ca (hF:=fN.h q3)) ?_
  exact ao H
 refine cC H ?_ ?_<;>intro H
 .refine cC H ?_ ?_<;>intro H
  .refine aa H λr4 q4 H=>nA (ca (hF:=Ae.h q4)) ?_
   exact ao H
  refine aa H λr5 q5 H=>nA (ca (hF:=fN.h q5)) ?_
  exact ao H
 refine cC H ?_ ?_<;>intro H
 .refine aa H λv6 Hj H=>jR ⟨[(2,tP 0),(3,tP 1),(4,tP 2),(54,tB v6)],[(0,.var 93 (kM [.f,.f] (dF a0))),(1,.var 43 (kM [] (dt a1))),(2,.var 189 (kM [.z,.z,.z] (cd d5)))],3⟩ ?_ ?_
  .refine gC Hj ?_ ?_<;>intro H
   .refine aa H λr7 q7 H=>nG (ca (hF:=GK.h q7)) ?_
    refine gC H ?_ ?_<;>intro H
    .refine gC H ?_ ?_<;>intro H
     .refine aa H λr8 q8 H=>nG (ca (hF:=xc.h q8)) ?_
      exact ai H
     exact ai H
    exact ai H
   exact ai H
  refine aa H λv12 Hj H=>jA ⟨[(2,tP 0),(4,tP 2)],[(0,.var 93 (kM [.f,.f] (dF v12))),(2,.var 189 (kM [.z,.z,.z] (cd d5)))],3⟩ ?_ ?_
  .exact az Hj
  refine aa H λr13 q13 H=>nA (ca (hF:=fN.h q13)) ?_
  exact ao H
 refine cC H ?_ ?_<;>intro H
 .refine aa H λv14 Hj H=>jR ⟨[(2,tP 0),(4,tP 2),(84,tB v14)],[(0,.var 93 (kM [.f,.f] (dF a0))),(2,.var 189 (kM [.z,.z,.z] (cd d5)))],3⟩ ?_ ?_
  .refine gC Hj ?_ ?_<;>intro H
   .refine gC H ?_ ?_<;>intro H
    .refine gC H ?_ ?_<;>intro H
     .refine aa H λr15 q15 H=>nG (ca (hF:=xc.h q15)) ?_
      exact ai H
     exact ai H
    exact ai H
   exact ai H
  refine aa H λv16 Hj H=>jA ⟨[(2,tP 0),(4,tP 2)],[(0,.var 93 (kM [.f,.f] (dF {a0 with cy:=v16}))),(2,.var 189 (kM [.z,.z,.z] (cd d5)))],3⟩ ?_ ?_
  .exact az Hj
  refine aa H λr17 q17 H=>nA (ca (hF:=fN.h q17)) ?_
  exact ao H
 refine cC H ?_ ?_<;>intro H
 .refine aa H λv18 Hj H=>jR ⟨[(2,tP 0),(4,tP 2),(95,tB v18)],[(0,.var 93 (kM [.f,.f] (dF a0))),(2,.var 189 (kM [.z,.z,.z] (cd d5)))],3⟩ ?_ ?_
  .exact az Hj
  refine cC H ?_ ?_<;>intro H
  .refine aa H λr19 q19 H=>nA (ca (hF:=xe.h q19)) ?_
   exact ao H
  refine cC H ?_ ?_<;>intro H
  .refine aa H λr20 q20 H=>nA (ca (hF:=xe.h q20)) ?_
   exact ao H
  refine aa H λr21 q21 H=>nA (ca (hF:=fN.h q21)) ?_
  exact ao H
 refine aa H λr22 q22 H=>nA (ca (hF:=fN.h q22)) ?_
 cases H
 exact bX⟩
def tW (a0:aJ):Option aY:=
 bif ltB 0 a0.fA then(abU (cV {a0 with fA:=WR (a0.fA-1)} []) λr1=>some r1) else(bif eqB a0.bi 1 then(abU (mS {a0 with fA:=3}) λr2=>abU (cV {a0 with fA:=3} [r2]) λr3=>some r3) else(abU (bif eqB a0.bi 2 then(some (!a0.cy)) else(some false)) λ(v4:Bool)=>bif v4 then(abU (qx {a0 with fA:=3}) λr5=>abU (cV {a0 with fA:=3} [r5]) λr6=>some r6) else(abU (cV a0 []) λr7=>some r7)))
instance GP {a0:aJ} :FC prog (tW a0=some r) 149 [.agg (c9 a0)] [.agg (qM [.o,.o,.o] (cd r))]:=gF func149 ntmps149 (hz 5) (hb 25 21) (hz 8)
def rA (a0:ah) (a1:am) (a2:aS):Option bM:=
 abU (gL a0) λr1=>abU (eK a1) λr2=>abU (i7 r1) λr3=>abU (bif !r3 then(some true) else(some (!eqB r1.bi 1))) λ(v4:Bool)=>bif v4 then(some {cj with aU:=r1,d8:=r2}) else(abU (bif leB r1.gG.et r1.bU.er then(abU (mj r2 r1.bU) λr14=>some ({r1 with bU:=r14.2},r14.1)) else(some (r1,r2))) λ((v12,v13):ah×am)=>abU (bif ltB 0 (v12.aw.aA.length:Int) then(abU (Q4 (WR (v12.dX+1)) 5) λr16=>some r16) else(some 0)) λ(v15:Int)=>bif ltB 4 v15 then(abU (t0 {v12 with dX:=v15} v13 a2) λr17=>some {r17 with cA:=[]}) else(abU (bif ltB 0 (v12.aw.aA.length:Int) then(some (ltB 0 v12.dP)) else(some false)) λ(v18:Bool)=>abU (bif v18 then(some (([]:List ax),WR (v12.dP-1))) else(abU (bif ltB 0 (v12.aw.aA.length:Int) then(abU (qs {v12 with dX:=v15,dP:=3}) λr23=>some (r23,3)) else(some (([]:List ax),v12.dP))) λ((v21,v22):List ax×Int)=>some (v21,v22))) λ((v19,v20):List ax×Int)=>abU (Bf {v12 with dX:=v15,dP:=v20} v13) λr24=>bif da 64 (v19++r24.cA).length then(some {r24 with ja:=[],cA:=(v19++r24.cA)}) else none))
theorem xO {a0:ah} {a1:am} {a2:aS} {r:bM} (H:rA a0 a1 a2=some r):FnV prog 150 [] [.v (.agg (kM [.f,.f,.f] (c7 a0))),.v (.agg (kM [.f] (cq a1))),.v (.agg [.d false (.l (a2.a8.map dK))])] [] (.v (.agg (kM [.t,.t,.t,.t,.n 210,.t] (bD r)))) [(210,n43 r.ja)]:=by
 refine fV func150 ntmps150 ?_
 refine aa H λr1 q1 H=>nA (ca (hF:=oI.h q1)) ?_
 refine aa H λr2 q2 H=>nA (ca (hF:=lK.h q2)) ?_
 refine aa H λr3 q3 H=>nA (ca (hF:=tR.h q3)) ?_
 refine aa H λv4 Hj H=>jR ⟨[(3,tP 210),(4,tP 211),(5,tP 212),(6,tP 213),(21,tB v4)],(oM [.w 214,.w 215,.w 216] 210 75 (c7 r1)++(oM [.w 217] 211 57 (cq r2)++[(212,.var 26 [.d false (.l (a2.a8.map dK))]),(213,.var 195 (kM [.z,.z,.z,.z,.z,.z] (bD cj)))])),218⟩ ?_ ?_
 .exact az Hj
 refine cC H ?_ ?_<;>intro H
 .cases H
  refine bF ((aV (o:=214))) ?_
  refine bF ((bN (k:=22))) ?_
  refine bF ((bN (k:=24))) ?_
  refine bF ((cz (o:=210))) ?_
  refine bF ((cz (o:=213))) ?_
  refine bF ((aV (o:=215))) ?_
  refine bF ((bN (k:=22))) ?_
  refine bF ((bN (k:=24))) ?_
  refine bF ((cz (o:=210))) ?_
  refine bF ((cz (o:=213))) ?_
  refine bF ((aV (o:=216))) ?_
  refine bF ((bN (k:=22))) ?_
  refine bF ((bN (k:=24))) ?_
  refine bF ((cz (o:=210))) ?_
  refine bF ((cz (o:=213))) ?_
  refine bF ((aV (o:=217))) ?_
  refine bF ((bN (k:=23))) ?_
  refine bF ((bN (k:=24))) ?_
  refine bF ((cz (o:=211))) ?_
  refine bF ((cz (o:=213))) ?_
  refine bF ((fH (o:=213) (j:=35))) ?_
  refine bF ((dH (o:=213) (j:=34) 43 11 true)) ?_
  refine bF (wS 218 210) ?_
  refine bF ((wB 210 (([]:List aH).length))) ?_
  exact cg
 obtain⟨⟨v12,v13⟩,Hj,H⟩:=ob H
 refine jA ⟨[(3,tP 210),(4,tP 211),(5,tP 212),(6,tP 213)],(oM [.w 214,.w 215,.w 216] 210 75 (c7 v12)++(oM [.w 218] 211 57 (cq v13)++[(212,.var 26 [.d false (.l (a2.a8.map dK))]),(213,.var 195 (kM [.z,.z,.z,.z,.z,.z] (bD cj)))])),219⟩ ?_ ?_
 .refine cC Hj ?_ ?_<;>intro H
  .refine aa H λr14 q14 H=>nA (ca (hF:=E4.h q14)) ?_
   exact ai H
  cases H
  refine an (uI (nx':=219) rfl) ?_
  refine an (wS 218 217) ?_
  exact wo
 refine aa H λv15 Hj H=>jA ⟨[(3,tP 210),(4,tP 211),(5,tP 212),(6,tP 213),(7,tB (ltB 0 (v12.aw.aA.length:Int)))],(oM [.w 214,.w 215,.w 216] 210 75 (c7 {v12 with dX:=v15})++(oM [.w 218] 211 57 (cq v13)++[(212,.var 26 [.d false (.l (a2.a8.map dK))]),(213,.var 195 (kM [.z,.z,.z,.z,.z,.z] (bD cj)))])),219⟩ ?_ ?_
 .refine cC Hj ?_ ?_<;>intro H
  .refine aa H λr16 q16 H=>nA (ca (hF:=Ny.h q16)) ?_
   exact ai H
  exact ai H
 refine cC H ?_ ?_<;>intro H
 .refine aa H λr17 q17 H=>bG (aV (o:=214)) ?_
  refine bG (aV (o:=215)) ?_
  refine bG (aV (o:=216)) ?_
  refine bG (bN (k:=55)) ?_
  refine bG (aV (o:=218)) ?_
  refine bG (bN (k:=56)) ?_
  refine sA (cwu [] [(210,219)] 220 (GT q17)) ?_
  cases H
  refine bF ((fH (o:=213) (j:=35))) ?_
  refine bF (wS 219 210) ?_
  exact cg
 refine aa H λv18 Hj H=>jR ⟨[(3,tP 210),(4,tP 211),(6,tP 213),(7,tB (ltB 0 (v12.aw.aA.length:Int))),(8,.v (.c (.w 219 (([]:List ax).length)))),(65,tB v18)],(oM [.w 214,.w 215,.w 216] 210 75 (c7 {v12 with dX:=v15})++(oM [.w 218] 211 57 (cq v13)++[(213,.var 195 (kM [.z,.z,.z,.z,.z,.z] (bD cj))),(219,w47 ([]:List ax))])),220⟩ ?_ ?_
 .exact az Hj
 obtain⟨⟨v19,v20⟩,Hj,H⟩:=ob H
 refine jA ⟨[(3,tP 210),(4,tP 211),(6,tP 213),(8,.v (.c (.w 219 v19.length)))],(oM [.w 214,.w 215,.w 216] 210 75 (c7 {v12 with dX:=v15,dP:=v20})++(oM [.w 218] 211 57 (cq v13)++[(213,.var 195 (kM [.z,.z,.z,.z,.z,.z] (bD cj))),(219,w47 v19)])),220⟩ ?_ ?_
 .refine cC Hj ?_ ?_<;>intro H
  .exact ai H
  obtain⟨⟨v21,v22⟩,Hj,H⟩:=ob H
  refine jA ⟨[(3,tP 210),(4,tP 211),(6,tP 213),(8,.v (.c (.w 220 v21.length)))],(oM [.w 214,.w 215,.w 216] 210 75 (c7 {v12 with dX:=v15,dP:=v22})++(oM [.w 218] 211 57 (cq v13)++[(213,.var 195 (kM [.z,.z,.z,.z,.z,.z] (bD cj))),(220,w47 v21)])),221⟩ ?_ ?_
  .refine cC Hj ?_ ?_<;>intro H
   .refine aa H λr23 q23 H=>nA (ca (hF:=GN.h q23)) ?_
    exact ai H
   cases H
   refine an (uI (nx':=221) rfl) ?_
   refine an (wS 220 219) ?_
   exact wo
  cases H
  refine an (wS 219 220) ?_
  exact wo
 refine aa H λr24 q24 H=>bG (aV (o:=214)) ?_
 refine bG (aV (o:=215)) ?_
 refine bG (aV (o:=216)) ?_
 refine bG (bN (k:=74)) ?_
 refine bG (aV (o:=218)) ?_
 refine bG (bN (k:=75)) ?_
 refine sA (cwv [] [(210,220),(211,221),(212,222),(213,223),(214,224)] 225 (NB q24)) ?_
 obtain⟨h,H⟩:=rq H
 refine sA (apT (enc:=db) (ys:=v19) (zs:=r24.cA) h) ?_
 cases H
 refine bF ((aV (o:=220))) ?_
 refine bF ((bN (k:=76))) ?_
 refine bF ((bN (k:=82))) ?_
 refine bF ((cz (o:=213))) ?_
 refine bF ((cz (o:=225))) ?_
 refine bF ((aV (o:=221))) ?_
 refine bF ((bN (k:=76))) ?_
 refine bF ((bN (k:=82))) ?_
 refine bF ((cz (o:=213))) ?_
 refine bF ((cz (o:=225))) ?_
 refine bF ((aV (o:=222))) ?_
 refine bF ((bN (k:=76))) ?_
 refine bF ((bN (k:=82))) ?_
 refine bF ((cz (o:=213))) ?_
 refine bF ((cz (o:=225))) ?_
 refine bF ((aV (o:=223))) ?_
 refine bF ((bN (k:=76))) ?_
 refine bF ((bN (k:=82))) ?_
 refine bF ((cz (o:=213))) ?_
 refine bF ((cz (o:=225))) ?_
 refine bF ((aV (o:=219))) ?_
 refine bF ((bN (k:=80))) ?_
 refine bF ((bN (k:=82))) ?_
 refine bF ((cz (o:=213))) ?_
 refine bF ((cz (o:=225))) ?_
 refine bF ((dH (o:=213) (j:=34) 43 11 true)) ?_
 refine bF (wS 226 210) ?_
 refine bF ((wB 210 (([]:List aH).length))) ?_
 exact cg
end Go.AM
