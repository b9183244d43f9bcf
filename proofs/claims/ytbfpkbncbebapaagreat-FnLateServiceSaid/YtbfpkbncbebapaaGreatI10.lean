/- A part. -/
import Derived.Test.YtbfpkbncbebapaaGreatI9
set_option linter.unusedVariables false
open Option renaming bind->aaC
namespace Go.AM
open Go.Proofs
open Tryz
attribute [local irreducible] AWN NS AWO AWR AWC DR dO ip
set_option maxRecDepth 100000
set_option maxHeartbeats 40000000
def sJ (a0:aw):Option bg:=
 bif ltB 0 a0.di then(aaC (cm {a0 with di:=WR (a0.di-1)} []) λr1=>some r1) else(bif eqB a0.aG 1 then(aaC (lV {a0 with di:=3}) λr2=>aaC (cm {a0 with di:=3} [r2]) λr3=>some r3) else(aaC (bif eqB a0.aG 2 then(some (!a0.bM)) else(some false)) λ(v4:Bool)=>bif v4 then(aaC (py {a0 with di:=3}) λr5=>aaC (cm {a0 with di:=3} [r5]) λr6=>some r6) else(aaC (cm a0 []) λr7=>some r7)))
theorem Fj {a0:aw} {r:bg} (H:sJ a0=some r):Fn prog 146 [.agg (dq a0)] [.agg (qM [.o,.o,.o] (cM r))]:=by
 refine fI func146 ntmps146 ?_
 refine cC H ?_ ?_<;>intro H
 .refine aa H λr1 q1 H=>nA (ca (hF:=cN q1)) ?_
  exact ao H
 refine cC H ?_ ?_<;>intro H
 .refine mz [0,1,2,3,4,5] (h:=?_)
  refine wkb ?_
  refine aa H λr2 q2 H=>iS rfl (ca (hF:=vG q2)) ?_
  refine wkb ?_
  refine tg rfl (bsx (bs rfl rfl rfl rfl rfl rfl rfl rfl) rfl) ?_
  refine wkb ?_
  refine aa H λr3 q3 H=>iS rfl (ca (hF:=cN q3)) ?_
  refine wkb ?_
  refine tg rfl (spx 100499) ?_
  refine wkb ?_
  refine wI ?_
  exact ao H
 refine aa H λv4 Hj H=>jR ⟨[(1,tP 0),(2,tP 1),(21,tB v4)],[(0,.var 86 (kM [.f,.f] (fL a0))),(1,.var 181 (kM [.z,.z,.z] (cM fX)))],2⟩ ?_ ?_
 .refine gC Hj ?_ ?_<;>intro H
  .exact ai H
  exact ai H
 refine cC H ?_ ?_<;>intro H
 .refine mz [0,1,2,3,4,5] (h:=?_)
  refine wkb ?_
  refine aa H λr5 q5 H=>iS rfl (ca (hF:=yf q5)) ?_
  refine wkb ?_
  refine tg rfl (bsx (bs rfl rfl rfl rfl rfl rfl rfl rfl) rfl) ?_
  refine wkb ?_
  refine aa H λr6 q6 H=>iS rfl (ca (hF:=cN q6)) ?_
  refine wkb ?_
  refine tg rfl (spx 100500) ?_
  refine wkb ?_
  refine wI ?_
  exact ao H
 refine aa H λr7 q7 H=>nA (ca (hF:=cN q7)) ?_
 exact ao H
def qv (a0:ae) (a1:av) (a2:aU):Option bZ:=
 aaC (gr a0) λr1=>aaC (eN a1) λr2=>aaC (iC r1) λr3=>aaC (bif !r3 then(some true) else(some (!eqB r1.aG 1))) λ(v4:Bool)=>bif v4 then(some {dr with az:=r1,cy:=r2}) else(aaC (bif leB r1.gT.dQ r1.bC.d4 then(aaC (nC r2 r1.bC) λr14=>some ({r1 with bC:=r14.2},r14.1)) else(some (r1,r2))) λ((v12,v13):ae×av)=>aaC (bif ltB 0 (v12.aq.aD.length:Int) then(aaC (Md (WR (v12.c9+1)) 5) λr16=>some r16) else(some 0)) λ(v15:Int)=>bif ltB 4 v15 then(aaC (sN {v12 with c9:=v15} v13 a2) λr17=>some {r17 with b6:=[]}) else(aaC (bif ltB 0 (v12.aq.aD.length:Int) then(some (ltB 0 v12.cR)) else(some false)) λ(v18:Bool)=>aaC (bif v18 then(some (([]:List aK),WR (v12.cR-1))) else(aaC (bif ltB 0 (v12.aq.aD.length:Int) then(aaC (pm {v12 with c9:=v15,cR:=3}) λr23=>some (r23,3)) else(some (([]:List aK),v12.cR))) λ((v21,v22):List aK×Int)=>some (v21,v22))) λ((v19,v20):List aK×Int)=>aaC (zK {v12 with c9:=v15,cR:=v20} v13) λr24=>bif em 64 (v19++r24.b6).length then(some {r24 with eW:=[],b6:=(v19++r24.b6)}) else none))
theorem wE {a0:ae} {a1:av} {a2:aU} {r:bZ} (H:qv a0 a1 a2=some r):FnV prog 147 [] [.v (.agg (kM [.f,.f,.f] (cW a0))),.v (.agg (kM [.f] (cT a1))),.v (.agg [.d false (.l (a2.aZ.map dL))])] [] (.v (.agg (kM [.t,.t,.t,.t,.n 210,.t] (cq r)))) [(210,n42 r.eW)]:=by
 refine fV func147 ntmps147 ?_
 refine aa H λr1 q1 H=>nA (ca (hF:=kX q1)) ?_
 refine aa H λr2 q2 H=>nA (ca (hF:=fj q2)) ?_
 refine aa H λr3 q3 H=>nA (ca (hF:=nj q3)) ?_
 refine aa H λv4 Hj H=>jR ⟨[(3,tP 210),(4,tP 211),(5,tP 212),(6,tP 213),(21,tB v4)],(oM [.w 214,.w 215,.w 216] 210 69 (cW r1)++(oM [.w 217] 211 89 (cT r2)++[(212,.var 26 [.d false (.l (a2.aZ.map dL))]),(213,.var 188 (kM [.z,.z,.z,.z,.z,.z] (cq dr)))])),218⟩ ?_ ?_
 .refine gC Hj ?_ ?_<;>intro H
  .exact ai H
  exact ai H
 refine cC H ?_ ?_<;>intro H
 .cases H
  refine bO ((bw (o:=214))) ?_
  refine bO ((bJ (k:=22))) ?_
  refine bO ((bJ (k:=24))) ?_
  refine bO ((cS (o:=210))) ?_
  refine bO ((cS (o:=213))) ?_
  refine bO ((bw (o:=215))) ?_
  refine bO ((bJ (k:=22))) ?_
  refine bO ((bJ (k:=24))) ?_
  refine bO ((cS (o:=210))) ?_
  refine bO ((cS (o:=213))) ?_
  refine bO ((bw (o:=216))) ?_
  refine bO ((bJ (k:=22))) ?_
  refine bO ((bJ (k:=24))) ?_
  refine bO ((cS (o:=210))) ?_
  refine bO ((cS (o:=213))) ?_
  refine bO ((bw (o:=217))) ?_
  refine bO ((bJ (k:=23))) ?_
  refine bO ((bJ (k:=24))) ?_
  refine bO ((cS (o:=211))) ?_
  refine bO ((cS (o:=213))) ?_
  refine bO ((G7 (o:=213) (j:=35))) ?_
  refine bO ((gU (o:=213) (j:=34) 42 11 true)) ?_
  refine bO (wS 218 210) ?_
  refine bO ((wB 210 (([]:List aR).length))) ?_
  exact cV
 obtain⟨⟨v12,v13⟩,Hj,H⟩:=ob H
 refine jA ⟨[(3,tP 210),(4,tP 211),(5,tP 212),(6,tP 213)],(oM [.w 214,.w 215,.w 216] 210 69 (cW v12)++(oM [.w 218] 211 89 (cT v13)++[(212,.var 26 [.d false (.l (a2.aZ.map dL))]),(213,.var 188 (kM [.z,.z,.z,.z,.z,.z] (cq dr)))])),219⟩ ?_ ?_
 .refine cC Hj ?_ ?_<;>intro H
  .refine aa H λr14 q14 H=>nA (ca (hF:=DW q14)) ?_
   exact ai H
  cases H
  refine aH (CX (nx':=219) rfl) ?_
  refine aH (wS 218 217) ?_
  exact wo
 refine aa H λv15 Hj H=>jA ⟨[(3,tP 210),(4,tP 211),(5,tP 212),(6,tP 213),(7,tB (ltB 0 (v12.aq.aD.length:Int)))],(oM [.w 214,.w 215,.w 216] 210 69 (cW {v12 with c9:=v15})++(oM [.w 218] 211 89 (cT v13)++[(212,.var 26 [.d false (.l (a2.aZ.map dL))]),(213,.var 188 (kM [.z,.z,.z,.z,.z,.z] (cq dr)))])),219⟩ ?_ ?_
 .refine cC Hj ?_ ?_<;>intro H
  .refine aa H λr16 q16 H=>nA (ca (hF:=HQ q16)) ?_
   exact ai H
  exact ai H
 refine cC H ?_ ?_<;>intro H
 .refine aa H λr17 q17 H=>bN (bw (o:=214)) ?_
  refine bN (bw (o:=215)) ?_
  refine bN (bw (o:=216)) ?_
  refine bN (bJ (k:=55)) ?_
  refine bN (bw (o:=218)) ?_
  refine bN (bJ (k:=56)) ?_
  refine sA (cwu [] [(210,219)] 220 (Fp q17)) ?_
  cases H
  refine bO ((G7 (o:=213) (j:=35))) ?_
  refine bO (wS 219 210) ?_
  exact cV
 refine aa H λv18 Hj H=>jR ⟨[(3,tP 210),(4,tP 211),(6,tP 213),(7,tB (ltB 0 (v12.aq.aD.length:Int))),(8,.v (.c (.w 219 (([]:List aK).length)))),(65,tB v18)],(oM [.w 214,.w 215,.w 216] 210 69 (cW {v12 with c9:=v15})++(oM [.w 218] 211 89 (cT v13)++[(213,.var 188 (kM [.z,.z,.z,.z,.z,.z] (cq dr))),(219,w46 ([]:List aK))])),220⟩ ?_ ?_
 .refine gC Hj ?_ ?_<;>intro H
  .exact ai H
  exact ai H
 obtain⟨⟨v19,v20⟩,Hj,H⟩:=ob H
 refine jA ⟨[(3,tP 210),(4,tP 211),(6,tP 213),(8,.v (.c (.w 219 v19.length)))],(oM [.w 214,.w 215,.w 216] 210 69 (cW {v12 with c9:=v15,cR:=v20})++(oM [.w 218] 211 89 (cT v13)++[(213,.var 188 (kM [.z,.z,.z,.z,.z,.z] (cq dr))),(219,w46 v19)])),220⟩ ?_ ?_
 .refine cC Hj ?_ ?_<;>intro H
  .exact ai H
  obtain⟨⟨v21,v22⟩,Hj,H⟩:=ob H
  refine jA ⟨[(3,tP 210),(4,tP 211),(6,tP 213),(8,.v (.c (.w 220 v21.length)))],(oM [.w 214,.w 215,.w 216] 210 69 (cW {v12 with c9:=v15,cR:=v22})++(oM [.w 218] 211 89 (cT v13)++[(213,.var 188 (kM [.z,.z,.z,.z,.z,.z] (cq dr))),(220,w46 v21)])),221⟩ ?_ ?_
  .refine cC Hj ?_ ?_<;>intro H
   .refine aa H λr23 q23 H=>nA (ca (hF:=Fi q23)) ?_
    exact ai H
   cases H
   refine aH (CX (nx':=221) rfl) ?_
   refine aH (wS 220 219) ?_
   exact wo
  cases H
  refine aH (wS 219 220) ?_
  exact wo
 refine aa H λr24 q24 H=>bN (bw (o:=214)) ?_
 refine bN (bw (o:=215)) ?_
 refine bN (bw (o:=216)) ?_
 refine bN (bJ (k:=74)) ?_
 refine bN (bw (o:=218)) ?_
 refine bN (bJ (k:=75)) ?_
 refine sA (cwv [] [(210,220),(211,221),(212,222),(213,223),(214,224)] 225 (Mi q24)) ?_
 obtain⟨h,H⟩:=rq H
 refine sA (apT (enc:=d5) (ys:=v19) (zs:=r24.b6) h) ?_
 cases H
 refine bO ((bw (o:=220))) ?_
 refine bO ((bJ (k:=76))) ?_
 refine bO ((bJ (k:=82))) ?_
 refine bO ((cS (o:=213))) ?_
 refine bO ((cS (o:=225))) ?_
 refine bO ((bw (o:=221))) ?_
 refine bO ((bJ (k:=76))) ?_
 refine bO ((bJ (k:=82))) ?_
 refine bO ((cS (o:=213))) ?_
 refine bO ((cS (o:=225))) ?_
 refine bO ((bw (o:=222))) ?_
 refine bO ((bJ (k:=76))) ?_
 refine bO ((bJ (k:=82))) ?_
 refine bO ((cS (o:=213))) ?_
 refine bO ((cS (o:=225))) ?_
 refine bO ((bw (o:=223))) ?_
 refine bO ((bJ (k:=76))) ?_
 refine bO ((bJ (k:=82))) ?_
 refine bO ((cS (o:=213))) ?_
 refine bO ((cS (o:=225))) ?_
 refine bO ((bw (o:=219))) ?_
 refine bO ((bJ (k:=80))) ?_
 refine bO ((bJ (k:=82))) ?_
 refine bO ((cS (o:=213))) ?_
 refine bO ((cS (o:=225))) ?_
 refine bO ((gU (o:=213) (j:=34) 42 11 true)) ?_
 refine bO (wS 226 210) ?_
 refine bO ((wB 210 (([]:List aR).length))) ?_
 exact cV
def lZ (a0:ae) (a1:Int):Option aR:=
 aaC (mJ a0.aV (⟨a1,a0.aE,a0.ag,a0.aF,0,c7,0⟩:aR)) λr1=>some r1
theorem vK {a0:ae} {a1:Int} {r:aR} (H:lZ a0 a1=some r):Fn prog 329 [.agg (cG a0),aI a1] [.agg (qM [] (ig r))]:=by
 refine fI func329 ntmps329 ?_
 refine aa H λr1 q1 H=>nA (ca (hF:=tp q1)) ?_
 exact ao H
def jy (a0:ae) (a1:aR):(Int×Int)->Option (cK (Int×Int) (Int))
 |(v4,v5)=>bif ltB v5 (a0.aq.aD.length:Int) then(aaC (ix a0.aq.aD v5) λx9=>aaC (bif ltB x9.cQ a1.bI then(some (WR (v4+(x9.a8.length:Int)))) else(some v4)) λ(v10:Int)=>some (.next (v10,WR (v5+1)))) else(some (.done v4))
def mr (a0:ae) (a1:aR):Option bT:=
 aaC (bif !eqB a0.aG 1 then(some true) else(bif !eqB a1.ag a0.ag then(some true) else(aaC (iW a0.aV a1) λr2=>bif !r2 then(some true) else(some (ltB a0.aq.bb a1.bI))))) λ(v1:Bool)=>bif v1 then(aaC (db a0 []) λr3=>some r3) else(aaC (iter (jy a0 a1) FU (0,0)) λ(v8:Int)=>aaC (oP a0.bC v8) λr11=>aaC (kv a0.aq a1.bI) λr12=>aaC (db {a0 with c9:=0,aq:=r12,bC:=r11.1} []) λr13=>some r13)
theorem zG {a0:ae} {a1:aR} {r:bT} (H:mr a0 a1=some r):Fn prog 290 [.agg (cG a0),.agg (dY a1)] [.agg (qM [.o,.o,.o,.o] (dU r))]:=by
 refine fI func290 ntmps290 ?_
 refine aa H λv1 Hj H=>jR ⟨[(2,tP 0),(3,tP 1),(4,tP 2),(32,tB v1)],[(0,.var 69 (kM [.f,.f,.f] (cW a0))),(1,.var 42 (kM [] (ig a1))),(2,.var 237 (kM [.z,.z,.z,.z] (dU gS)))],3⟩ ?_ ?_
 .refine gC Hj ?_ ?_<;>intro H
  .exact ai H
  refine gC H ?_ ?_<;>intro H
  .exact ai H
  refine aa H λr2 q2 H=>nG (ca (hF:=mt q2)) ?_
  refine gC H ?_ ?_<;>intro H
  .exact ai H
  exact ai H
 refine cC H ?_ ?_<;>intro H
 .refine aa H λr3 q3 H=>nA (ca (hF:=ef q3)) ?_
  exact ao H
 refine aa H λv8 Hj H=>jB ⟨[(2,tP 0),(3,tP 1),(4,tP 2),(5,tI v8)],[(0,.var 69 (kM [.f,.f,.f] (cW a0))),(1,.var 42 (kM [] (ig a1))),(2,.var 237 (kM [.z,.z,.z,.z] (dU gS)))],3⟩ ?_ ?_
 .refine iT Hj (λq=>⟨[(2,tP 0),(3,tP 1),(4,tP 2),(5,tI q.1),(37,.v (.c (.d false (.l (a0.aq.aD.map aN))))),(38,tI (a0.aq.aD.length:Int)),(39,tI q.2)],[(0,.var 69 (kM [.f,.f,.f] (cW a0))),(1,.var 42 (kM [] (ig a1))),(2,.var 237 (kM [.z,.z,.z,.z] (dU gS)))],3⟩) ?_
  rintro⟨v4,v5⟩ o H
  try dsimp only
  refine wI ?_
  refine cC H ?_ ?_<;>intro H
  .refine aa H λx9 hx9 H=>nA (xdT (enc:=aN) hx9) ?_
   refine aa H λv10 Hj H=>jA ⟨[(2,tP 0),(3,tP 1),(4,tP 2),(5,tI v10),(37,.v (.c (.d false (.l (a0.aq.aD.map aN))))),(38,tI (a0.aq.aD.length:Int)),(39,tI v5)],[(0,.var 69 (kM [.f,.f,.f] (cW a0))),(1,.var 42 (kM [] (ig a1))),(2,.var 237 (kM [.z,.z,.z,.z] (dU gS)))],3⟩ ?_ ?_
   .refine cC Hj ?_ ?_<;>intro H
    .exact ai H
    exact ai H
   cases H
   refine eA ?_
   exact wo
  cases H
  refine et (λhq=>?_)
  cases hq
  refine wI ?_
  exact wo
 refine aa H λr11 q11 H=>nA (ca (hF:=Ci q11)) ?_
 refine aa H λr12 q12 H=>nA (ca (hF:=xN q12)) ?_
 refine aa H λr13 q13 H=>nA (ca (hF:=ef q13)) ?_
 exact ao H
def ro (a0:Int) (a1:Int) (a2:Int) (a3:aK):Option (an×Bool):=
 aaC (bif !eqB a3.ag a1 then(some true) else(bif !eqB a3.aF a2 then(some true) else(aaC (qw a0 a3) λr2=>some (!r2)))) λ(v1:Bool)=>bif v1 then(some (bG,false)) else(aaC (qH a0 a2) λr3=>aaC (u6 r3 a3.cj) λr4=>some ((⟨a3.cj.ks,r4⟩:an),true))
theorem Fh {a0:Int} {a1:Int} {a2:Int} {a3:aK} {r:an×Bool} (H:ro a0 a1 a2 a3=some r) (hflag:r.2=true):Fn prog 105 [aI a0,aI a1,aI a2,.agg (d5 a3)] [.agg (qM [.o] (ed r.1)),.c (.d (.b r.2))]:=by
 refine fI func105 ntmps105 ?_
 refine aa H λv1 Hj H=>jR ⟨[(0,tI a0),(2,tI a2),(7,tP 0),(8,tP 1),(26,tB v1)],[(0,.var 46 (kM [.f] (lS a3))),(1,.var 144 (kM [.z] (ed bG)))],2⟩ ?_ ?_
 .refine gC Hj ?_ ?_<;>intro H
  .exact ai H
  refine gC H ?_ ?_<;>intro H
  .exact ai H
  refine aa H λr2 q2 H=>nG (ca (hF:=wF q2)) ?_
  exact ai H
 refine cC H ?_ ?_<;>intro H
 .cases H
  cases hflag
 refine dI ?_
 refine aa H λr3 q3 H=>dA (ca (hF:=sE q3)) ?_
 refine aa H λr4 q4 H=>dA (ca (hF:=wR q4)) ?_
 refine wI ?_
 exact ao H
theorem Fg {a0:Int} {a1:Int} {a2:Int} {a3:aK} {r:an×Bool} (H:ro a0 a1 a2 a3=some r) (hflag:r.2=false):Fn prog 105 [aI a0,aI a1,aI a2,.agg (d5 a3)] [.agg (qM [.z] (ed r.1)),.c (.d (.b r.2))]:=by
 refine fI func105 ntmps105 ?_
 refine aa H λv1 Hj H=>jR ⟨[(0,tI a0),(2,tI a2),(7,tP 0),(8,tP 1),(26,tB v1)],[(0,.var 46 (kM [.f] (lS a3))),(1,.var 144 (kM [.z] (ed bG)))],2⟩ ?_ ?_
 .refine gC Hj ?_ ?_<;>intro H
  .exact ai H
  refine gC H ?_ ?_<;>intro H
  .exact ai H
  refine aa H λr2 q2 H=>nG (ca (hF:=wF q2)) ?_
  exact ai H
 refine cC H ?_ ?_<;>intro H
 .exact ao H
 refine dI ?_
 refine aa H λr3 q3 H=>dA (ca (hF:=sE q3)) ?_
 refine aa H λr4 q4 H=>dA (ca (hF:=wR q4)) ?_
 refine wI ?_
 cases H
 cases hflag
end Go.AM
