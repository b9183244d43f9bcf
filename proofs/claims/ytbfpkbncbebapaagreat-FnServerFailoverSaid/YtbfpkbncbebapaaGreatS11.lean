/- A part. -/
import Derived.Test.YtbfpkbncbebapaaGreatS10
set_option linter.unusedVariables false
open Option renaming bind->YL
open List renaming range->hV
namespace Go.AM
open Go.Proofs
open Tryz
attribute [local irreducible] AWN NS AWO AWR AWC DR dQ gQ
set_option maxRecDepth 100000
set_option maxHeartbeats 40000000
def mS (a0:ab) (a1:cR):Int->Option (cf (Int) (Bool))
 |v4=>bif ltB v4 (a0.aN.length:Int) then(YL (ix a0.aN v4) λx5=>YL (nC x5 a1.bG) λr6=>bif r6 then(dn (some true)) else(some (.next (WR (v4+1))))) else(dn (YL (ix a0.an a1.bG.bv) λx7=>YL (bif a1.bG.dt then(some (!a1.bG.em)) else(some false)) λ(v8:Bool)=>bif v8 then(YL (bif ltB a1.bG.cr.ag x7.ag then(some true) else(bif eqB a1.bG.cr.ag x7.ag then(YL (nu x7.aO a1.bG.cr) λr10=>some (!r10)) else(some false))) λ(v9:Bool)=>some v9) else(bif a1.bG.dt then(some true) else(bif a1.bG.em then(YL (ix a0.aj a1.bG.bv) λx11=>YL (nE x11 a1.bG.aY) λr12=>some r12) else(YL (kO x7 a1.bG.aY) λr13=>some r13)))))
def rS (a0:ab) (a1:cR):Option Bool:=
 YL (bif !eqB a1.aV 13 then(some true) else(YL (jq a0) λr2=>bif !r2 then(some true) else(YL (ji a0 a1.bG) λr3=>some (!r3)))) λ(v1:Bool)=>bif v1 then(some true) else(iter (mS a0 a1) FU 0)
theorem Fm {a0:ab} {a1:cR} {r:Bool} (H:rS a0 a1=some r):Fn prog 43 [.agg (eD a0),.agg (Cv a1)] [.c (.d (.b r))]:=by
 refine fI func43 ntmps43 ?_
 refine aa H λv1 Hj H=>jR ⟨[(2,tP 0),(5,tP 2),(23,tB v1)],[(0,.var 34 (kM [.f,.f,.f,.f,.f] (aJ a0))),(2,.var 48 (kM [.f] (lf a1.bG)))],3⟩ ?_ ?_
 .refine gC Hj ?_ ?_<;>intro H
  .exact ai H
  refine aa H λr2 q2 H=>nG (ca (hF:=rU q2)) ?_
  refine gC H ?_ ?_<;>intro H
  .exact ai H
  refine aa H λr3 q3 H=>nG (ca (hF:=wU q3)) ?_
  exact ai H
 refine cC H ?_ ?_<;>intro H
 .exact ao H
 refine iT H (λq=>⟨[(2,tP 0),(5,tP 2),(6,tI q)],[(0,.var 34 (kM [.f,.f,.f,.f,.f] (aJ a0))),(2,.var 48 (kM [.f] (lf a1.bG)))],3⟩) ?_
 rintro v4 o H
 try dsimp only
 refine wI ?_
 refine cC H ?_ ?_<;>intro H
 .refine dI ?_
  refine aa H λx5 hx5 H=>dA (xdT (enc:=dv) hx5) ?_
  refine aa H λr6 q6 H=>dA (ca (hF:=Bq q6)) ?_
  refine wI ?_
  refine cC H ?_ ?_<;>intro H
  .obtain⟨r0,Hd,rfl⟩:=dnE H
   refine f6 (λhq=>?_)
   have H:=Hd.trans (congrArg some hq)
   refine wI ?_
   exact ao H
  cases H
  refine dy ?_
  exact wo
 obtain⟨r0,Hd,rfl⟩:=dnE H
 refine dF (λhq=>?_)
 have H:=Hd.trans (congrArg some hq)
 refine wI ?_
 refine aa H λx7 hx7 H=>nA (xdT (enc:=cI) hx7) ?_
 refine aa H λv8 Hj H=>jR ⟨[(2,tP 0),(5,tP 2),(7,tP 3),(44,tB v8)],[(0,.var 34 (kM [.f,.f,.f,.f,.f] (aJ a0))),(2,.var 48 (kM [.f] (lf a1.bG))),(3,.var 86 (kM [.f,.f] (db x7)))],4⟩ ?_ ?_
 .refine gC Hj ?_ ?_<;>intro H
  .exact ai H
  exact ai H
 refine cC H ?_ ?_<;>intro H
 .refine aa H λv9 Hj H=>jR ⟨[(4,tB v9)],[],0⟩ ?_ ?_
  .refine gC Hj ?_ ?_<;>intro H
   .exact ai H
   refine gC H ?_ ?_<;>intro H
   .refine aa H λr10 q10 H=>nG (ca (hF:=wD q10)) ?_
    exact ai H
   exact ai H
  exact ao H
 refine cC H ?_ ?_<;>intro H
 .exact ao H
 refine cC H ?_ ?_<;>intro H
 .refine dI ?_
  refine aa H λx11 hx11 H=>dA (xdT (enc:=bB) hx11) ?_
  refine aa H λr12 q12 H=>dA (ca (hF:=Br q12)) ?_
  refine wI ?_
  exact ao H
 refine aa H λr13 q13 H=>nA (ca (hF:=yY q13)) ?_
 exact ao H
def uK (a0:aT) (a1:ah):Option (aH×aT):=
 YL (co a0 8) λr1=>YL (co r1.2 5) λr2=>YL (co r2.2 3) λr3=>YL (co r3.2 2) λr4=>YL (bif eqB (WR (1+r1.1)) 3 then(some (r4.2,(⟨WR (1+r1.1),r2.1,a1.bF,WR ((WR (a1.a9+r3.1))-r4.1),a1.aF.vp,cz,0⟩:aH))) else(YL (bif eqB (WR (1+r1.1)) 8 then(YL (co r4.2 4) λr17=>YL (co r17.2 2) λr18=>YL (D9 0 (WR ((WR (a1.aw.bz-r17.1))+r18.1))) λr19=>some (r19,r18.2)) else(some (0,r4.2))) λ((v15,v16):Int×aT)=>some (v16,(⟨WR (1+r1.1),r2.1,a1.ag,WR ((WR (a1.a9+r3.1))-r4.1),v15,cz,0⟩:aH)))) λ((v10,v11):aT×aH)=>YL (i7 a1.aO v11) λr20=>YL (co v10 8) λr21=>YL (bif eqB r21.1 0 then(YL (xA r21.2) λr38=>some (r38.2,{r20 with iZ:=r38.1})) else(YL (bif eqB r21.1 1 then(some {r20 with bK:=WR (r20.bK+1)}) else(YL (bif eqB r21.1 2 then(some (WR (r20.ag+1))) else(some r20.ag)) λ(v42:Int)=>some {r20 with ag:=v42})) λ(v41:aH)=>some (r21.2,v41))) λ((v36,v37):aT×aH)=>some (v37,v36)
theorem Ia {a0:aT} {a1:ah} {r:aH×aT} (H:uK a0 a1=some r):FnW prog 296 (.var 148 (kM [.f] (bS a0))) [tP 200,.v (.agg (kM [.f,.f,.f] (b8 a1)))] (.var 148 (kM [.f] (bS r.2))) [.agg (qM [] (cY r.1))]:=by
 refine fW func296 ntmps296 ?_
 refine zI (hV 18) ?_
 refine aa H λr1 q1 H=>wA (cwx (o:=200) (bU q1)) ?_
 refine aa H λr2 q2 H=>wA (cwx (o:=200) (bU q2)) ?_
 refine aa H λr3 q3 H=>wA (cwx (o:=200) (bU q3)) ?_
 refine aa H λr4 q4 H=>wA (cwx (o:=200) (bU q4)) ?_
 refine wA (spx 100324) ?_
 obtain⟨⟨v10,v11⟩,Hj,H⟩:=ob H
 refine jA ⟨[(0,tP 200),(3,tP 210),(4,tP 211),(5,tP 212)],[(200,.var 148 (kM [.f] (bS v10))),(210,.var 69 (kM [.f,.f,.f] (b8 a1))),(211,.var 42 (kM [] (cY d6))),(212,.var 42 (kM [] (cY v11)))],213⟩ ?_ ?_
 .refine cC Hj ?_ ?_<;>intro H
  .exact ai H
  obtain⟨⟨v15,v16⟩,Hj,H⟩:=ob H
  refine jA ⟨[(0,tP 200),(3,tP 210),(4,tP 211),(5,tP 212)],[(200,.var 148 (kM [.f] (bS v16))),(210,.var 69 (kM [.f,.f,.f] (b8 a1))),(211,.var 42 (kM [] (cY d6))),(212,.var 42 (kM [] (cY (⟨WR (1+r1.1),r2.1,a1.ag,WR ((WR (a1.a9+r3.1))-r4.1),v15,cz,0⟩:aH))))],213⟩ ?_ ?_
  .refine cC Hj ?_ ?_<;>intro H
   .refine zI (hV 12) ?_
    refine aa H λr17 q17 H=>wA (cwx (o:=200) (bU q17)) ?_
    refine aa H λr18 q18 H=>wA (cwx (o:=200) (bU q18)) ?_
    refine aa H λr19 q19 H=>zA (ca (hF:=Be q19)) ?_
    refine wA (spx 100323) ?_
    exact ai H
   exact ai H
  exact ai H
 refine aa H λr20 q20 H=>nA (ca (hF:=lu q20)) ?_
 refine aa H λr21 q21 H=>sA (cw (o:=200) (bU q21)) ?_
 obtain⟨⟨v36,v37⟩,Hj,H⟩:=ob H
 refine jA ⟨[(4,tP 211),(5,tP 212)],[(200,.var 148 (kM [.f] (bS v36))),(211,.var 42 (kM [] (cY d6))),(212,.var 42 (kM [] (cY v37)))],213⟩ ?_ ?_
 .refine cC Hj ?_ ?_<;>intro H
  .refine aa H λr38 q38 H=>sA (cw (o:=200) (Bs q38)) ?_
   exact ai H
  refine aa H λv41 Hj H=>jA ⟨[(4,tP 211),(5,tP 212)],[(200,.var 148 (kM [.f] (bS r21.2))),(211,.var 42 (kM [] (cY d6))),(212,.var 42 (kM [] (cY v41)))],213⟩ ?_ ?_
  .refine cC Hj ?_ ?_<;>intro H
   .exact ai H
   refine aa H λv42 Hj H=>jA ⟨[(4,tP 211),(5,tP 212)],[(200,.var 148 (kM [.f] (bS r21.2))),(211,.var 42 (kM [] (cY d6))),(212,.var 42 (kM [] (cY {r20 with ag:=v42})))],213⟩ ?_ ?_
   .refine cC Hj ?_ ?_<;>intro H
    .exact ai H
    exact ai H
   exact ai H
  exact ai H
 cases H
 exact fo
def tU (a0:aD):Option aH:=
 YL (i7 a0.aO (⟨5,a0.bg,a0.ag,a0.a9,0,cz,0⟩:aH)) λr1=>some r1
theorem yW {a0:aD} {r:aH} (H:tU a0=some r):Fn prog 340 [.agg (cI a0)] [.agg (qM [] (cY r))]:=by
 refine fI func340 ntmps340 ?_
 refine aa H λr1 q1 H=>nA (ca (hF:=lu q1)) ?_
 exact ao H
def sm (a0:aD):Option bh:=
 YL (jy a0) λr1=>bif ltB 0 a0.f5 then(some (⟨{r1 with f5:=WR (a0.f5-1)},([]:List aH)⟩:bh)) else(bif eqB a0.bu 1 then(YL (qQ a0) λr2=>YL (lB r1 r2) λr3=>some r3) else(YL (bif eqB a0.bu 2 then(some (!a0.de)) else(some false)) λ(v4:Bool)=>bif v4 then(YL (tU a0) λr5=>YL (lB r1 r5) λr6=>some r6) else(some (⟨r1,([]:List aH)⟩:bh))))
theorem Ft {a0:aD} {r:bh} (H:sm a0=some r):Fn prog 298 [.agg (cI a0)] [.agg (qM [.d,.d,.o] (cL r))]:=by
 refine fI func298 ntmps298 ?_
 refine aa H λr1 q1 H=>nA (ca (hF:=jh q1)) ?_
 refine cC H ?_ ?_<;>intro H
 .cases H
  refine cU (wB 5 (([]:List aH).length)) ?_
  refine cU (aU (o:=2)) ?_
  refine cU (aU (o:=3)) ?_
  refine cU (dq (o:=1)) ?_
  exact dT
 refine cC H ?_ ?_<;>intro H
 .refine zI (hV 5) ?_
  refine aa H λr2 q2 H=>zA (ca (hF:=Av q2)) ?_
  refine aa H λr3 q3 H=>zB (ay (aU (o:=2)) (ay (aU (o:=3)) (cj (k:=18)))) (hP rfl (cwu [] [(210,5)] 6 (FnV.up (qS q3) rfl rfl))) bW ?_
  refine wA (spx 100333) ?_
  exact ao H
 refine aa H λv4 Hj H=>jR ⟨[(1,tP 0),(2,tP 1),(3,tP 4),(22,tB v4)],(oM [.w 2,.w 3] 4 86 (db r1)++[(0,.var 86 (kM [.f,.f] (db a0))),(1,.var 181 (kM [.z,.z,.z] (cL eO)))]),5⟩ ?_ ?_
 .refine gC Hj ?_ ?_<;>intro H
  .exact ai H
  exact ai H
 refine cC H ?_ ?_<;>intro H
 .refine zI (hV 5) ?_
  refine aa H λr5 q5 H=>zA (ca (hF:=yW q5)) ?_
  refine aa H λr6 q6 H=>zB (ay (aU (o:=2)) (ay (aU (o:=3)) (cj (k:=31)))) (hP rfl (cwu [] [(210,5)] 6 (FnV.up (qS q6) rfl rfl))) bW ?_
  refine wA (spx 100334) ?_
  exact ao H
 cases H
 refine cU (wB 5 (([]:List aH).length)) ?_
 refine cU (aU (o:=2)) ?_
 refine cU (aU (o:=3)) ?_
 refine cU (dq (o:=1)) ?_
 exact dT
def wQ (a0:ah) (a1:ae):Option aC:=
 YL (qL a0.aO a0.ag a0.a9 a1) λr1=>some r1
theorem EB {a0:ah} {a1:ae} {r:aC} (H:wQ a0 a1=some r):Fn prog 363 [.agg (bB a0),.agg (av a1)] [.agg (qM [.o] (lh r))]:=by
 refine fI func363 ntmps363 ?_
 refine aa H λr1 q1 H=>nA (ca (hF:=Ad q1)) ?_
 exact ao H
def qT (a0:ah) (a1:Int):Option bR:=
 YL (i7 a0.aO (⟨a1,a0.bg,a0.ag,a0.a9,0,cz,0⟩:aH)) λr1=>some (⟨a0,[r1]⟩:bR)
theorem Aw {a0:ah} {a1:Int} {r:bR} (H:qT a0 a1=some r):FnV prog 382 [] [.v (.agg (kM [.f,.f,.f] (b8 a0))),tI a1] [] (.v (.agg (kM [.f,.f,.f,.w 210] (eB r)))) [(210,w42 r.dX)]:=by
 refine fV func382 ntmps382 ?_
 refine zI (hV 8) ?_
 refine aa H λr1 q1 H=>zA (ca (hF:=lu q1)) ?_
 refine wA (spx 100420) ?_
 cases H
 refine bV (wS 213 210) ?_
 refine bV ((wB 210 [r1].length)) ?_
 exact bO
def tV (a0:ah) (a1:aH):Option Bool:=
 YL (bif eqB a0.bu 1 then(bif eqB a1.ag a0.ag then(YL (gF a0.aO a1) λr2=>some r2) else(some false)) else(some false)) λ(v1:Bool)=>some v1
theorem BZ {a0:ah} {a1:aH} {r:Bool} (H:tV a0 a1=some r):Fn prog 383 [.agg (bB a0),.agg (ey a1)] [.c (.d (.b r))]:=by
 refine fI func383 ntmps383 ?_
 refine aa H λv1 Hj H=>jR ⟨[(4,tB v1)],[],0⟩ ?_ ?_
 .refine gC Hj ?_ ?_<;>intro H
  .refine gC H ?_ ?_<;>intro H
   .refine aa H λr2 q2 H=>nG (ca (hF:=jw q2)) ?_
    exact ai H
   exact ai H
  exact ai H
 exact ao H
def uD (a0:Int) (a1:Int) (a2:Int) (a3:aC):Option (ae×Bool):=
 YL (bif !eqB a3.ag a1 then(some true) else(bif !eqB a3.a9 a2 then(some true) else(YL (nu a0 a3) λr2=>some (!r2)))) λ(v1:Bool)=>bif v1 then(some (fa,false)) else(YL (qg a0 a2) λr3=>YL (yQ r3 1 0 a3.bp) λr4=>some ((⟨r4.2.1,r4.1⟩:ae),r4.2.2))
theorem HW {a0:Int} {a1:Int} {a2:Int} {a3:aC} {r:ae×Bool} (H:uD a0 a1 a2 a3=some r):Fn prog 373 [aI a0,aI a1,aI a2,.agg (dR a3)] [.agg (qM [.d] (eh r.1)),.c (.d (.b r.2))]:=by
 refine fI func373 ntmps373 ?_
 refine aa H λv1 Hj H=>jR ⟨[(0,tI a0),(2,tI a2),(7,tP 0),(8,tP 1),(28,tB v1)],[(0,.var 46 (kM [.f] (lh a3))),(1,.var 144 (kM [.z] (eh fa)))],2⟩ ?_ ?_
 .refine gC Hj ?_ ?_<;>intro H
  .exact ai H
  refine gC H ?_ ?_<;>intro H
  .exact ai H
  refine aa H λr2 q2 H=>nG (ca (hF:=wD q2)) ?_
  exact ai H
 refine cC H ?_ ?_<;>intro H
 .cases H
  refine cU (ST (o:=1)) ?_
  exact dT
 refine dI ?_
 refine aa H λr3 q3 H=>dA (ca (hF:=wx q3)) ?_
 refine aa H λr4 q4 H=>dA (ca (hF:=HY q4)) ?_
 refine wI ?_
 cases H
 refine cU (aU (o:=2)) ?_
 refine cU (dq (o:=1)) ?_
 exact dT
def xv (a0:aD) (a1:aH):Option bh:=
 YL (kZ a0.c9 a1.bP) λr1=>YL (jy a0) λr2=>bif !eqB r1.2.Code 0 then(some (⟨r2,([]:List aH)⟩:bh)) else(some (⟨{r2 with c9:=r1.1,ag:=a1.ag,aO:=r1.2.yn},[(⟨3,a0.bg,a1.ag,0,r1.2.vp,cz,0⟩:aH)]⟩:bh))
theorem Kl {a0:aD} {a1:aH} {r:bh} (H:xv a0 a1=some r):Fn prog 375 [.agg (cI a0),.agg (ey a1)] [.agg (qM [.o,.o,.o] (cL r))]:=by
 refine fI func375 ntmps375 ?_
 refine aa H λr1 q1 H=>nA (ca (hF:=vm q1)) ?_
 refine aa H λr2 q2 H=>nA (ca (hF:=jh q2)) ?_
 refine cC H ?_ ?_<;>intro H
 .cases H
  refine cU (wB 8 (([]:List aH).length)) ?_
  exact dT
 cases H
 refine cU (wB 8 ([(⟨3,a0.bg,a1.ag,0,r1.2.vp,cz,0⟩:aH)].length)) ?_
 exact dT
end Go.AM
