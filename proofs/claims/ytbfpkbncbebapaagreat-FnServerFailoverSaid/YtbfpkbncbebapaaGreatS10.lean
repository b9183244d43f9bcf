/- A part. -/
import Derived.Test.YtbfpkbncbebapaaGreatS9
set_option linter.unusedVariables false
open Option renaming bind->YL
open List renaming range->hV
namespace Go.AM
open Go.Proofs
open Tryz
attribute [local irreducible] AWN NS AWO AWR AWC DR dQ gQ
set_option maxRecDepth 100000
set_option maxHeartbeats 40000000
def nu (a0:Int) (a1:aC):Option Bool:=
 YL (js a1.bp) λr1=>YL (bif r1 then(bif eqB a1.bp.di 1 then(YL (qg a0 a1.a9) λr3=>YL (qO r3 a1.bp) λr4=>some r4) else(some false)) else(some false)) λ(v2:Bool)=>some v2
theorem wD {a0:Int} {a1:aC} {r:Bool} (H:nu a0 a1=some r):Fn prog 101 [aI a0,.agg (dR a1)] [.c (.d (.b r))]:=by
 refine fI func101 ntmps101 ?_
 refine dI ?_
 refine aa H λr1 q1 H=>dA (ca (hF:=rV q1)) ?_
 refine aa H λv2 Hj H=>et ⟨[(4,tB v2)],[],0⟩ ?_ ?_
 .have H:=Hj
  refine wI ?_
  refine dC H ?_ ?_<;>intro H
  .refine dC H ?_ ?_<;>intro H
   .refine aa H λr3 q3 H=>dG (ca (hF:=wx q3)) ?_
    refine aa H λr4 q4 H=>dG (ca (hF:=Ag q4)) ?_
    refine wI ?_
    exact ai H
   refine wI ?_
   exact ai H
  refine wI ?_
  exact ai H
 refine wI ?_
 exact ao H
def gF (a0:Int) (a1:aH):Option Bool:=
 YL (qN a0 a1) λr1=>some (eqB a1.iZ r1)
theorem jw {a0:Int} {a1:aH} {r:Bool} (H:gF a0 a1=some r):Fn prog 170 [aI a0,.agg (ey a1)] [.c (.d (.b r))]:=by
 refine fI func170 ntmps170 ?_
 refine dI ?_
 refine aa H λr1 q1 H=>dA (ca (hF:=Ae q1)) ?_
 refine wI ?_
 exact ao H
def nE (a0:ah) (a1:aH):Option Bool:=
 bif eqB a1.aV 3 then(YL (bif leB a1.ag a0.bC.cV then(bif !eqB a1.ag a0.bF then(some true) else(some (!eqB a1.bK a0.aF.vp))) else(some false)) λ(v1:Bool)=>some v1) else(YL (bif eqB a1.aV 5 then(some (eqB a1.aV 5)) else(some (eqB a1.aV 8))) λ(v2:Bool)=>bif v2 then(YL (bif ltB a1.ag a0.ag then(some true) else(bif eqB a1.ag a0.ag then(YL (gF a0.aO a1) λr4=>some (!r4)) else(some false))) λ(v3:Bool)=>some v3) else(some true))
theorem Br {a0:ah} {a1:aH} {r:Bool} (H:nE a0 a1=some r):Fn prog 102 [.agg (bB a0),.agg (ey a1)] [.c (.d (.b r))]:=by
 refine fI func102 ntmps102 ?_
 refine cC H ?_ ?_<;>intro H
 .refine aa H λv1 Hj H=>jR ⟨[(4,tB v1)],[],0⟩ ?_ ?_
  .refine gC Hj ?_ ?_<;>intro H
   .refine gC H ?_ ?_<;>intro H
    .exact ai H
    exact ai H
   exact ai H
  exact ao H
 refine aa H λv2 Hj H=>jA ⟨[(2,tP 0),(3,tP 1),(30,tB v2)],[(0,.var 69 (kM [.f,.f,.f] (b8 a0))),(1,.var 42 (kM [] (cY a1)))],2⟩ ?_ ?_
 .refine cC Hj ?_ ?_<;>intro H
  .exact ai H
  exact ai H
 refine cC H ?_ ?_<;>intro H
 .refine aa H λv3 Hj H=>jR ⟨[(4,tB v3)],[],0⟩ ?_ ?_
  .refine gC Hj ?_ ?_<;>intro H
   .exact ai H
   refine gC H ?_ ?_<;>intro H
   .refine aa H λr4 q4 H=>nG (ca (hF:=jw q4)) ?_
    exact ai H
   exact ai H
  exact ao H
 exact ao H
def kO (a0:aD) (a1:aH):Option Bool:=
 bif eqB a1.aV 2 then(YL (lx a0.c9.eP a0.c9.dM a1.bP) λr1=>YL (bif eqB r1 1 then(some true) else(some (eqB r1 2))) λ(v2:Bool)=>some v2) else(YL (bif eqB a1.aV 4 then(some (eqB a1.aV 4)) else(some (eqB a1.aV 6))) λ(v3:Bool)=>bif v3 then(YL (bif ltB a1.ag a0.ag then(some true) else(bif eqB a1.ag a0.ag then(YL (gF a0.aO a1) λr5=>some (!r5)) else(some false))) λ(v4:Bool)=>some v4) else(some true))
theorem yY {a0:aD} {a1:aH} {r:Bool} (H:kO a0 a1=some r):Fn prog 103 [.agg (cI a0),.agg (ey a1)] [.c (.d (.b r))]:=by
 refine fI func103 ntmps103 ?_
 refine cC H ?_ ?_<;>intro H
 .refine aa H λr1 q1 H=>nA (ca (hF:=vd q1)) ?_
  refine aa H λv2 Hj H=>jR ⟨[(4,tB v2)],[],0⟩ ?_ ?_
  .refine gC Hj ?_ ?_<;>intro H
   .exact ai H
   exact ai H
  exact ao H
 refine aa H λv3 Hj H=>jA ⟨[(2,tP 0),(3,tP 1),(25,tB v3)],[(0,.var 86 (kM [.f,.f] (db a0))),(1,.var 42 (kM [] (cY a1)))],2⟩ ?_ ?_
 .refine cC Hj ?_ ?_<;>intro H
  .exact ai H
  exact ai H
 refine cC H ?_ ?_<;>intro H
 .refine aa H λv4 Hj H=>jR ⟨[(4,tB v4)],[],0⟩ ?_ ?_
  .refine gC Hj ?_ ?_<;>intro H
   .exact ai H
   refine gC H ?_ ?_<;>intro H
   .refine aa H λr5 q5 H=>nG (ca (hF:=jw q5)) ?_
    exact ai H
   exact ai H
  exact ao H
 exact ao H
def qL (a0:Int) (a1:Int) (a2:Int) (a3:ae):Option aC:=
 YL (qg a0 a2) λr1=>YL (Ed r1 1 a3.cV a3.aS) λr2=>some (⟨a1,a2,r2⟩:aC)
theorem Ad {a0:Int} {a1:Int} {a2:Int} {a3:ae} {r:aC} (H:qL a0 a1 a2 a3=some r):Fn prog 294 [aI a0,aI a1,aI a2,.agg (av a3)] [.agg (qM [.o] (lh r))]:=by
 refine fI func294 ntmps294 ?_
 refine zI (hV 12) ?_
 refine aa H λr1 q1 H=>zA (ca (hF:=wx q1)) ?_
 refine aa H λr2 q2 H=>zA (ca (hF:=LI q2)) ?_
 refine wA (spx 100308) ?_
 exact ao H
def i7 (a0:Int) (a1:aH):Option aH:=
 YL (qN a0 a1) λr1=>some {a1 with iZ:=r1}
theorem lu {a0:Int} {a1:aH} {r:aH} (H:i7 a0 a1=some r):Fn prog 338 [aI a0,.agg (ey a1)] [.agg (qM [] (cY r))]:=by
 refine fI func338 ntmps338 ?_
 refine aa H λr1 q1 H=>nA (ca (hF:=Ae q1)) ?_
 exact ao H
def CE (a0:aT) (a1:aD):Option (aH×aT):=
 YL (co a0 8) λr1=>YL (bif eqB (WR (1+r1.1)) 2 then(YL (km a1.c9.ID (WR (a1.c9.dM+1))) λr18=>YL (gV a1.c9.eP r18 (WR (a1.c9.dM+1))) λr19=>YL (im r1.2 3) λr20=>YL (bif r20.1 then(YL (xB r20.2) λr31=>some (r31.2,(⟨WR (1+r1.1),a1.bg,WR (a1.c9.dM+1),a1.a9,0,r31.1,0⟩:aH))) else(some (r20.2,(⟨WR (1+r1.1),a1.bg,WR (a1.c9.dM+1),a1.a9,0,r19,0⟩:aH)))) λ((v29,v30):aT×aH)=>some (v29,v30)) else(YL (bif eqB (WR (1+r1.1)) 4 then(YL (co r1.2 5) λr37=>some (r37.1,r37.2)) else(some (a1.a9,r1.2))) λ((v35,v36):Int×aT)=>some (v36,(⟨WR (1+r1.1),a1.bg,a1.ag,v35,0,cz,0⟩:aH)))) λ((v16,v17):aT×aH)=>YL (i7 a1.aO v17) λr38=>YL (co v16 8) λr39=>YL (bif eqB r39.1 0 then(YL (xA r39.2) λr56=>some (r56.2,{r38 with iZ:=r56.1})) else(YL (bif eqB r39.1 1 then(YL (co r39.2 7) λr64=>some (r64.2,{r38 with bg:=WR (r64.1-1)})) else(YL (bif eqB r39.1 2 then(some (WR (r38.ag+1))) else(some r38.ag)) λ(v65:Int)=>some (r39.2,{r38 with ag:=v65}))) λ((v62,v63):aT×aH)=>some (v62,v63))) λ((v54,v55):aT×aH)=>some (v55,v54)
theorem Pd {a0:aT} {a1:aD} {r:aH×aT} (H:CE a0 a1=some r):FnW prog 295 (.var 148 (kM [.f] (bS a0))) [tP 200,.v (.agg (kM [.f,.f] (db a1)))] (.var 148 (kM [.f] (bS r.2))) [.agg (qM [] (cY r.1))]:=by
 refine fW func295 ntmps295 ?_
 refine zI (hV 12) ?_
 refine aa H λr1 q1 H=>wA (cwx (o:=200) (bU q1)) ?_
 refine wA (spx 100314) ?_
 obtain⟨⟨v16,v17⟩,Hj,H⟩:=ob H
 refine jA ⟨[(0,tP 200),(3,tP 210),(4,tP 211),(6,tP 212)],[(200,.var 148 (kM [.f] (bS v16))),(210,.var 86 (kM [.f,.f] (db a1))),(211,.var 42 (kM [] (cY d6))),(212,.var 42 (kM [] (cY v17)))],213⟩ ?_ ?_
 .refine cC Hj ?_ ?_<;>intro H
  .refine zI (hV 12) ?_
   refine aa H λr18 q18 H=>zA (ca (hF:=tJ q18)) ?_
   refine aa H λr19 q19 H=>zA (ca (hF:=kJ q19)) ?_
   refine wA (spx 100313) ?_
   refine aa H λr20 q20 H=>sA (cw (o:=200) (ia q20)) ?_
   obtain⟨⟨v29,v30⟩,Hj,H⟩:=ob H
   refine jA ⟨[(0,tP 200),(3,tP 210),(4,tP 211),(6,tP 212)],[(200,.var 148 (kM [.f] (bS v29))),(210,.var 86 (kM [.f,.f] (db a1))),(211,.var 42 (kM [] (cY d6))),(212,.var 42 (kM [] (cY v30)))],213⟩ ?_ ?_
   .refine cC Hj ?_ ?_<;>intro H
    .refine aa H λr31 q31 H=>sA (cw (o:=200) (Kp q31)) ?_
     exact ai H
    exact ai H
   exact ai H
  obtain⟨⟨v35,v36⟩,Hj,H⟩:=ob H
  refine jA ⟨[(0,tP 200),(3,tP 210),(4,tP 211),(6,tP 212)],[(200,.var 148 (kM [.f] (bS v36))),(210,.var 86 (kM [.f,.f] (db a1))),(211,.var 42 (kM [] (cY d6))),(212,.var 42 (kM [] (cY (⟨WR (1+r1.1),a1.bg,a1.ag,v35,0,cz,0⟩:aH))))],213⟩ ?_ ?_
  .refine cC Hj ?_ ?_<;>intro H
   .refine aa H λr37 q37 H=>sA (cw (o:=200) (bU q37)) ?_
    exact ai H
   exact ai H
  exact ai H
 refine aa H λr38 q38 H=>nA (ca (hF:=lu q38)) ?_
 refine aa H λr39 q39 H=>sA (cw (o:=200) (bU q39)) ?_
 obtain⟨⟨v54,v55⟩,Hj,H⟩:=ob H
 refine jA ⟨[(4,tP 211),(6,tP 212)],[(200,.var 148 (kM [.f] (bS v54))),(211,.var 42 (kM [] (cY d6))),(212,.var 42 (kM [] (cY v55)))],213⟩ ?_ ?_
 .refine cC Hj ?_ ?_<;>intro H
  .refine aa H λr56 q56 H=>sA (cw (o:=200) (Bs q56)) ?_
   exact ai H
  obtain⟨⟨v62,v63⟩,Hj,H⟩:=ob H
  refine jA ⟨[(4,tP 211),(6,tP 212)],[(200,.var 148 (kM [.f] (bS v62))),(211,.var 42 (kM [] (cY d6))),(212,.var 42 (kM [] (cY v63)))],213⟩ ?_ ?_
  .refine cC Hj ?_ ?_<;>intro H
   .refine aa H λr64 q64 H=>sA (cw (o:=200) (bU q64)) ?_
    exact ai H
   refine aa H λv65 Hj H=>jA ⟨[(4,tP 211),(6,tP 212)],[(200,.var 148 (kM [.f] (bS r39.2))),(211,.var 42 (kM [] (cY d6))),(212,.var 42 (kM [] (cY {r38 with ag:=v65})))],213⟩ ?_ ?_
   .refine cC Hj ?_ ?_<;>intro H
    .exact ai H
    exact ai H
   exact ai H
  exact ai H
 cases H
 exact fo
def nh (a0:ah) (a1:aH):Option bR:=
 YL (km a0.bC.ID (WR (a0.bC.cV+1))) λr1=>YL (pj a0.bC r1) λr2=>bif(eqB r2.1.ID.du a0.bC.ID.du&&(eqB r2.1.ID.bK a0.bC.ID.bK&&(eqB r2.1.eP a0.bC.eP&&(eqB r2.1.cV a0.bC.cV&&true)))) then(YL (ny a0) λr3=>some r3) else(YL (ip a0) λr4=>some (⟨{r4 with bC:=r2.1,aF:=r2.2,bF:=r2.1.cV},[(⟨2,a1.bg,r2.1.cV,0,0,r2.2,0⟩:aH)]⟩:bR))
theorem Bf {a0:ah} {a1:aH} {r:bR} (H:nh a0 a1=some r):Fn prog 369 [.agg (bB a0),.agg (ey a1)] [.agg (qM [.o,.o,.o,.o] (eB r))]:=by
 refine fI func369 ntmps369 ?_
 refine zI (hV 18) ?_
 refine aa H λr1 q1 H=>zA (ca (hF:=tJ q1)) ?_
 refine aa H λr2 q2 H=>zA (ca (hF:=Aa q2)) ?_
 refine wA (spx 100418) ?_
 refine wA (spx 100417) ?_
 refine cC H ?_ ?_<;>intro H
 .refine aa H λr3 q3 H=>nA (ca (hF:=oi q3)) ?_
  exact ao H
 refine aa H λr4 q4 H=>nA (ca (hF:=gW q4)) ?_
 cases H
 refine cU (wB 9 ([(⟨2,a1.bg,r2.1.cV,0,0,r2.2,0⟩:aH)].length)) ?_
 exact dT
def kZ (a0:me) (a1:cX):Option (me×om):=
 YL (mZ a0) λr1=>bif !r1 then(some (a0,{iY with Code:=1})) else(YL (lx a0.eP a0.dM a1) λr2=>bif eqB r2 0 then(YL (jv a0.eP a1.fj a1.hO) λr3=>YL (eA a0.eP [3,a1.fj]) λr4=>YL (gV a0.eP a1.fj r3) λr5=>some ({a0 with dM:=r3},{iY with vp:=r4,yn:=r5.eP})) else(YL (bif eqB r2 2 then(some (eqB r2 2)) else(some (eqB r2 3))) λ(v6:Bool)=>bif v6 then(YL (pZ a0.eP a1.fj a0.dM) λr7=>some (a0,{iY with Code:=r2,UT:=r7})) else(some (a0,{iY with Code:=r2}))))
theorem vm {a0:me} {a1:cX} {r:me×om} (H:kZ a0 a1=some r):Fn prog 388 [.agg (Hb a0),.agg (ug a1)] [.agg (qM [] (La r.1)),.agg (qM [] (vG r.2))]:=by
 refine fI func388 ntmps388 ?_
 refine aa H λr1 q1 H=>nA (ca (hF:=wq q1)) ?_
 refine cC H ?_ ?_<;>intro H
 .exact ao H
 refine aa H λr2 q2 H=>nA (ca (hF:=vd q2)) ?_
 refine cC H ?_ ?_<;>intro H
 .refine aa H λr3 q3 H=>nA (ca (hF:=sr q3)) ?_
  refine ua [0,1,2,3,4,5,6,7,8,9,10,11,12,13,14,15,16] (h:=?_)
  refine wkb ?_
  refine B5 rfl (bsx (bs rfl rfl rfl rfl rfl rfl rfl rfl) rfl) ?_
  refine wkb ?_
  refine aa H λr4 q4 H=>lM rfl (ca (hF:=eu q4)) ?_
  refine wkb ?_
  refine aa H λr5 q5 H=>lM rfl (ca (hF:=kJ q5)) ?_
  refine wkb ?_
  refine B5 rfl (spx 100460) ?_
  refine wkb ?_
  refine B5 rfl (spx 100459) ?_
  refine wkb ?_
  refine wI ?_
  exact ao H
 refine aa H λv6 Hj H=>jA ⟨[(2,tP 0),(3,tP 1),(4,tP 2),(5,tP 3),(6,tI r2),(48,tB v6)],[(0,.var 84 (kM [] (La a0))),(1,.var 40 (kM [] (fm a1))),(2,.var 84 (kM [] (La Tc))),(3,.var 286 (kM [] (vG iY)))],4⟩ ?_ ?_
 .refine cC Hj ?_ ?_<;>intro H
  .exact ai H
  exact ai H
 refine cC H ?_ ?_<;>intro H
 .refine zI (hV 12) ?_
  refine aa H λr7 q7 H=>zA (ca (hF:=Ef q7)) ?_
  refine wA (spx 100462) ?_
  refine wA (spx 100461) ?_
  exact ao H
 exact ao H
def yP (a0:ab) (a1:Int):Option Int:=
 YL (jG a0.cq a1) λr1=>some r1
theorem HX {a0:ab} {a1:Int} {r:Int} (H:yP a0 a1=some r):Fn prog 17 [.agg (eD a0),aI a1] [.c (.d (.i .i64 r))]:=by
 refine fI func17 ntmps17 ?_
 refine aa H λr1 q1 H=>nA (ca (hF:=pk q1)) ?_
 exact ao H
def Bb (a0:ab):Int->Option (cf (Int) (Bool))
 |v1=>bif ltB v1 (a0.an.length:Int) then(YL (mR a0 v1) λr2=>YL (bif !r2 then(some true) else(YL (kY a0 v1) λr4=>bif !r4 then(some true) else(YL (gR a0 v1) λr5=>some (!r5)))) λ(v3:Bool)=>bif v3 then(dn (some false)) else(some (.next (WR (v1+1))))) else(dn (YL (jq a0) λr6=>some r6))
def HS (a0:ab):Option Bool:=
 iter (Bb a0) FU 0
theorem RS {a0:ab} {r:Bool} (H:HS a0=some r):Fn prog 23 [.agg (eD a0)] [.c (.d (.b r))]:=by
 refine fI func23 ntmps23 ?_
 refine iT H (λq=>⟨[(1,tP 0),(3,tI q)],[(0,.var 34 (kM [.f,.f,.f,.f,.f] (aJ a0)))],1⟩) ?_
 rintro v1 o H
 try dsimp only
 refine wI ?_
 refine cC H ?_ ?_<;>intro H
 .refine aa H λr2 q2 H=>nA (ca (hF:=xR q2)) ?_
  refine aa H λv3 Hj H=>jR ⟨[(1,tP 0),(3,tI v1),(26,tB v3)],[(0,.var 34 (kM [.f,.f,.f,.f,.f] (aJ a0)))],1⟩ ?_ ?_
  .refine gC Hj ?_ ?_<;>intro H
   .exact ai H
   refine aa H λr4 q4 H=>nG (ca (hF:=vl q4)) ?_
   refine gC H ?_ ?_<;>intro H
   .exact ai H
   refine aa H λr5 q5 H=>nG (ca (hF:=ph q5)) ?_
   exact ai H
  refine cC H ?_ ?_<;>intro H
  .obtain⟨r0,Hd,rfl⟩:=dnE H
   refine f6 (λhq=>?_)
   have H:=Hd.trans (congrArg some hq)
   refine wI ?_
   exact ao H
  cases H
  refine dy ?_
  exact wo
 obtain⟨r0,Hd,rfl⟩:=dnE H
 refine dF (λhq=>?_)
 have H:=Hd.trans (congrArg some hq)
 refine wI ?_
 refine aa H λr6 q6 H=>nA (ca (hF:=rU q6)) ?_
 exact ao H
end Go.AM
