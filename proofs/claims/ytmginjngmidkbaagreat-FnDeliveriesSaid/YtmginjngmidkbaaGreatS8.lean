/- A part. -/
import Derived.Test.YtmginjngmidkbaaGreatS7
set_option linter.unusedVariables false
open Option renaming bind->abU
open List renaming range->hV
namespace Go.AM
open Go.Proofs
open Tryz
attribute [local irreducible] AWN NS AWO AWR AWC DR ea gL
set_option maxRecDepth 100000
set_option maxHeartbeats 40000000
variable {a0:Int} {a1:Go.AM.aD}
def o3 (a0:Int) (a1:aA):Option Bool:=
 abU (kq a1.bz) λr1=>abU (bif r1 then(bif eqB a1.bz.cM 1 then(abU (rX a0 a1.aT) λr3=>abU (sY r3 a1.bz) λr4=>some r4) else(some false)) else(some false)) λ(v2:Bool)=>some v2
theorem zj {a1:aA} {r:Bool} (H:o3 a0 a1=some r):Fn prog 66 [aI a0,.agg (dH a1)] [.c (.d (.b r))]:=by
 refine fI func66 ntmps66 ?_
 refine dI ?_
 refine aa H λr1 q1 H=>dA (ca (hF:=tU q1)) ?_
 refine aa H λv2 Hj H=>fA ⟨[(4,tB v2)],[],0⟩ ?_ ?_
 .have H:=Hj
  refine wI ?_
  refine dC H ?_ ?_<;>intro H
  .refine dC H ?_ ?_<;>intro H
   .refine aa H λr3 q3 H=>dG (ca (hF:=y9 q3)) ?_
    refine aa H λr4 q4 H=>dG (ca (hF:=CB q4)) ?_
    refine wI ?_
    exact ai H
   refine wI ?_
   exact ai H
  refine wI ?_
  exact ai H
 refine wI ?_
 exact ao H
def it (a0:Int) (a1:aD):Option Bool:=
 abU (sX a0 a1) λr1=>some (eqB a1.iM r1)
theorem ku {r:Bool} (H:it a0 a1=some r):Fn prog 127 [aI a0,.agg (c9 a1)] [.c (.d (.b r))]:=by
 refine fI func127 ntmps127 ?_
 refine dI ?_
 refine aa H λr1 q1 H=>dA (ca (hF:=Cz q1)) ?_
 refine wI ?_
 exact ao H
def o9 (a0:ah) (a1:aD):Option Bool:=
 bif eqB a1.a8 3 then(abU (bif leB a1.ag a0.bA.cV then(bif !eqB a1.ag a0.bE then(some true) else(some (!eqB a1.bL a0.aC.vT))) else(some false)) λ(v1:Bool)=>some v1) else(abU (bif eqB a1.a8 5 then(some (eqB a1.a8 5)) else(some (eqB a1.a8 8))) λ(v2:Bool)=>bif v2 then(abU (bif ltB a1.ag a0.ag then(some true) else(bif eqB a1.ag a0.ag then(abU (it a0.aV a1) λr4=>some (!r4)) else(some false))) λ(v3:Bool)=>some v3) else(some true))
theorem D5 {a0:ah} {r:Bool} (H:o9 a0 a1=some r):Fn prog 67 [.agg (bU a0),.agg (c9 a1)] [.c (.d (.b r))]:=by
 refine fI func67 ntmps67 ?_
 refine cC H ?_ ?_<;>intro H
 .refine aa H λv1 Hj H=>jR ⟨[(4,tB v1)],[],0⟩ ?_ ?_
  .exact az Hj
  exact ao H
 refine aa H λv2 Hj H=>jA ⟨[(2,tP 0),(3,tP 1),(30,tB v2)],[(0,.var 75 (kM [.f,.f,.f] (ct a0))),(1,.var 43 (kM [] (cP a1)))],2⟩ ?_ ?_
 .exact az Hj
 refine cC H ?_ ?_<;>intro H
 .refine aa H λv3 Hj H=>jR ⟨[(4,tB v3)],[],0⟩ ?_ ?_
  .refine gC Hj ?_ ?_<;>intro H
   .exact ai H
   refine gC H ?_ ?_<;>intro H
   .refine aa H λr4 q4 H=>nG (ca (hF:=ku q4)) ?_
    exact ai H
   exact ai H
  exact ao H
 exact ao H
def lV (a0:aJ) (a1:aD):Option Bool:=
 bif eqB a1.a8 2 then(abU (mE a0.df.eP a0.df.dm a1.bW) λr1=>abU (bif eqB r1 1 then(some true) else(some (eqB r1 2))) λ(v2:Bool)=>some v2) else(abU (bif eqB a1.a8 4 then(some (eqB a1.a8 4)) else(some (eqB a1.a8 6))) λ(v3:Bool)=>bif v3 then(abU (bif ltB a1.ag a0.ag then(some true) else(bif eqB a1.ag a0.ag then(abU (it a0.aV a1) λr5=>some (!r5)) else(some false))) λ(v4:Bool)=>some v4) else(some true))
theorem Bs {a0:aJ} {r:Bool} (H:lV a0 a1=some r):Fn prog 68 [.agg (cS a0),.agg (c9 a1)] [.c (.d (.b r))]:=by
 refine fI func68 ntmps68 ?_
 refine cC H ?_ ?_<;>intro H
 .refine aa H λr1 q1 H=>nA (ca (hF:=xL q1)) ?_
  refine aa H λv2 Hj H=>jR ⟨[(4,tB v2)],[],0⟩ ?_ ?_
  .exact az Hj
  exact ao H
 refine aa H λv3 Hj H=>jA ⟨[(2,tP 0),(3,tP 1),(25,tB v3)],[(0,.var 93 (kM [.f,.f] (dt a0))),(1,.var 43 (kM [] (cP a1)))],2⟩ ?_ ?_
 .exact az Hj
 refine cC H ?_ ?_<;>intro H
 .refine aa H λv4 Hj H=>jR ⟨[(4,tB v4)],[],0⟩ ?_ ?_
  .refine gC Hj ?_ ?_<;>intro H
   .exact ai H
   refine gC H ?_ ?_<;>intro H
   .refine aa H λr5 q5 H=>nG (ca (hF:=ku q5)) ?_
    exact ai H
   exact ai H
  exact ao H
 exact ao H
def sW (a0:Int) (a1:Int) (a2:Int) (a3:ae):Option aA:=
 abU (rX a0 a2) λr1=>abU (Ho r1 1 a3.cV a3.bg) λr2=>some (⟨a1,a2,r2⟩:aA)
theorem Cy {a1:Int} {a2:Int} {a3:ae} {r:aA} (H:sW a0 a1 a2 a3=some r):Fn prog 260 [aI a0,aI a1,aI a2,.agg (an a3)] [.agg (qM [.o] (jd r))]:=by
 refine fI func260 ntmps260 ?_
 refine zI (hV 12) ?_
 refine aa H λr1 q1 H=>zA (ca (hF:=y9 q1)) ?_
 refine aa H λr2 q2 H=>zA (ca (hF:=OP q2)) ?_
 refine wA (spx 100308) ?_
 exact ao H
def jI (a0:Int) (a1:aD):Option aD:=
 abU (sX a0 a1) λr1=>some {a1 with iM:=r1}
theorem mC {r:aD} (H:jI a0 a1=some r):Fn prog 317 [aI a0,.agg (c9 a1)] [.agg (qM [] (cP r))]:=by
 refine fI func317 ntmps317 ?_
 refine aa H λr1 q1 H=>nA (ca (hF:=Cz q1)) ?_
 exact ao H
def Fw (a0:bm) (a1:aJ):Option (aD×bm):=
 abU (cI a0 8) λr1=>abU (bif eqB (WR (1+r1.1)) 2 then(abU (lA a1.df.ID (WR (a1.df.dm+1))) λr18=>abU (iI a1.df.eP r18 (WR (a1.df.dm+1))) λr19=>abU (i9 r1.2 3) λr20=>abU (bif r20.1 then(abU (Ac r20.2) λr31=>some (r31.2,(⟨WR (1+r1.1),a1.be,WR (a1.df.dm+1),a1.aT,0,r31.1,0⟩:aD))) else(some (r20.2,(⟨WR (1+r1.1),a1.be,WR (a1.df.dm+1),a1.aT,0,r19,0⟩:aD)))) λ((v29,v30):bm×aD)=>some (v29,v30)) else(abU (bif eqB (WR (1+r1.1)) 4 then(abU (cI r1.2 5) λr37=>some (r37.1,r37.2)) else(some (a1.aT,r1.2))) λ((v35,v36):Int×bm)=>some (v36,(⟨WR (1+r1.1),a1.be,a1.ag,v35,0,cg,0⟩:aD)))) λ((v16,v17):bm×aD)=>abU (jI a1.aV v17) λr38=>abU (cI v16 8) λr39=>abU (bif eqB r39.1 0 then(abU (Ab r39.2) λr56=>some (r56.2,{r38 with iM:=r56.1})) else(abU (bif eqB r39.1 1 then(abU (cI r39.2 7) λr64=>some (r64.2,{r38 with be:=WR (r64.1-1)})) else(abU (bif eqB r39.1 2 then(some (WR (r38.ag+1))) else(some r38.ag)) λ(v65:Int)=>some (r39.2,{r38 with ag:=v65}))) λ((v62,v63):bm×aD)=>some (v62,v63))) λ((v54,v55):bm×aD)=>some (v55,v54)
theorem Ss {a0:bm} {a1:aJ} {r:aD×bm} (H:Fw a0 a1=some r):FnW prog 261 (.var 135 (kM [.f] (ci a0))) [tP 200,.v (.agg (kM [.f,.f] (dt a1)))] (.var 135 (kM [.f] (ci r.2))) [.agg (qM [] (cP r.1))]:=by
 refine fW func261 ntmps261 ?_
 refine zI (hV 12) ?_
 refine aa H λr1 q1 H=>wA (cwx (o:=200) (cp q1)) ?_
 refine wA (spx 100314) ?_
 obtain⟨⟨v16,v17⟩,Hj,H⟩:=ob H
 refine jA ⟨[(0,tP 200),(3,tP 210),(4,tP 211),(6,tP 212)],[(200,.var 135 (kM [.f] (ci v16))),(210,.var 93 (kM [.f,.f] (dt a1))),(211,.var 43 (kM [] (cP dQ))),(212,.var 43 (kM [] (cP v17)))],213⟩ ?_ ?_
 .refine cC Hj ?_ ?_<;>intro H
  .refine zI (hV 12) ?_
   refine aa H λr18 q18 H=>zA (ca (hF:=vB q18)) ?_
   refine aa H λr19 q19 H=>zA (ca (hF:=lR q19)) ?_
   refine wA (spx 100313) ?_
   refine aa H λr20 q20 H=>sA (cw (o:=200) (iQ q20)) ?_
   obtain⟨⟨v29,v30⟩,Hj,H⟩:=ob H
   refine jA ⟨[(0,tP 200),(3,tP 210),(4,tP 211),(6,tP 212)],[(200,.var 135 (kM [.f] (ci v29))),(210,.var 93 (kM [.f,.f] (dt a1))),(211,.var 43 (kM [] (cP dQ))),(212,.var 43 (kM [] (cP v30)))],213⟩ ?_ ?_
   .refine cC Hj ?_ ?_<;>intro H
    .refine aa H λr31 q31 H=>sA (cw (o:=200) (Ns q31)) ?_
     exact ai H
    exact ai H
   exact ai H
  obtain⟨⟨v35,v36⟩,Hj,H⟩:=ob H
  refine jA ⟨[(0,tP 200),(3,tP 210),(4,tP 211),(6,tP 212)],[(200,.var 135 (kM [.f] (ci v36))),(210,.var 93 (kM [.f,.f] (dt a1))),(211,.var 43 (kM [] (cP dQ))),(212,.var 43 (kM [] (cP (⟨WR (1+r1.1),a1.be,a1.ag,v35,0,cg,0⟩:aD))))],213⟩ ?_ ?_
  .refine cC Hj ?_ ?_<;>intro H
   .refine aa H λr37 q37 H=>sA (cw (o:=200) (cp q37)) ?_
    exact ai H
   exact ai H
  exact ai H
 refine aa H λr38 q38 H=>nA (ca (hF:=mC q38)) ?_
 refine aa H λr39 q39 H=>sA (cw (o:=200) (cp q39)) ?_
 obtain⟨⟨v54,v55⟩,Hj,H⟩:=ob H
 refine jA ⟨[(4,tP 211),(6,tP 212)],[(200,.var 135 (kM [.f] (ci v54))),(211,.var 43 (kM [] (cP dQ))),(212,.var 43 (kM [] (cP v55)))],213⟩ ?_ ?_
 .refine cC Hj ?_ ?_<;>intro H
  .refine aa H λr56 q56 H=>sA (cw (o:=200) (D6 q56)) ?_
   exact ai H
  obtain⟨⟨v62,v63⟩,Hj,H⟩:=ob H
  refine jA ⟨[(4,tP 211),(6,tP 212)],[(200,.var 135 (kM [.f] (ci v62))),(211,.var 43 (kM [] (cP dQ))),(212,.var 43 (kM [] (cP v63)))],213⟩ ?_ ?_
  .refine cC Hj ?_ ?_<;>intro H
   .refine aa H λr64 q64 H=>sA (cw (o:=200) (cp q64)) ?_
    exact ai H
   refine aa H λv65 Hj H=>jA ⟨[(4,tP 211),(6,tP 212)],[(200,.var 135 (kM [.f] (ci r39.2))),(211,.var 43 (kM [] (cP dQ))),(212,.var 43 (kM [] (cP {r38 with ag:=v65})))],213⟩ ?_ ?_
   .exact az Hj
   exact ai H
  exact ai H
 cases H
 exact f4
def qQ (a0:aP) (a1:Int):Option (aP×cA):=
 abU (eN a0) λr1=>abU (bif !r1 then(some true) else(some (eqB a0.cV 999999))) λ(v2:Bool)=>bif v2 then(some (a0,cg)) else(abU (iI a0.eP a1 (WR (a0.cV+1))) λr3=>some ({a0 with cV:=WR (a0.cV+1)},r3))
theorem Cu {a0:aP} {a1:Int} {r:aP×cA} (H:qQ a0 a1=some r):Fn prog 367 [.agg (cQ a0),aI a1] [.agg (qM [] (gm r.1)),.agg (qM [] (ei r.2))]:=by
 refine fI func367 ntmps367 ?_
 refine aa H λr1 q1 H=>nA (ca (hF:=iH q1)) ?_
 refine aa H λv2 Hj H=>jR ⟨[(1,tI a1),(2,tP 0),(4,tP 1),(5,tP 2),(14,tB v2)],[(0,.var 62 (kM [] (gm a0))),(1,.var 62 (kM [] (gm nq))),(2,.var 41 (kM [] (ei cg)))],3⟩ ?_ ?_
 .exact az Hj
 refine cC H ?_ ?_<;>intro H
 .exact ao H
 refine zI (hV 9) ?_
 refine aa H λr3 q3 H=>zA (ca (hF:=lR q3)) ?_
 refine wA (spx 100414) ?_
 refine wA (spx 100413) ?_
 exact ao H
def oS (a0:ah) (a1:aD):Option bI:=
 abU (lA a0.bA.ID (WR (a0.bA.cV+1))) λr1=>abU (qQ a0.bA r1) λr2=>bif(eqB r2.1.ID.dN a0.bA.ID.dN&&(eqB r2.1.ID.bL a0.bA.ID.bL&&(eqB r2.1.eP a0.bA.eP&&(eqB r2.1.cV a0.bA.cV&&true)))) then(abU (o4 a0) λr3=>some r3) else(abU (ja a0) λr4=>some (⟨{r4 with bA:=r2.1,aC:=r2.2,bE:=r2.1.cV},[(⟨2,a1.be,r2.1.cV,0,0,r2.2,0⟩:aD)]⟩:bI))
theorem DN {a0:ah} {r:bI} (H:oS a0 a1=some r):Fn prog 353 [.agg (bU a0),.agg (c9 a1)] [.agg (qM [.o,.o,.o,.o] (cK r))]:=by
 refine fI func353 ntmps353 ?_
 refine zI (hV 18) ?_
 refine aa H λr1 q1 H=>zA (ca (hF:=vB q1)) ?_
 refine aa H λr2 q2 H=>zA (ca (hF:=Cu q2)) ?_
 refine wA (spx 100418) ?_
 refine wA (spx 100417) ?_
 refine cC H ?_ ?_<;>intro H
 .refine aa H λr3 q3 H=>nA (ca (hF:=pI q3)) ?_
  exact ao H
 refine aa H λr4 q4 H=>nA (ca (hF:=iK q4)) ?_
 cases H
 refine du (wB 9 ([(⟨2,a1.be,r2.1.cV,0,0,r2.2,0⟩:aD)].length)) ?_
 exact dW
def Bk (a0:Int) (a1:Int) (a2:Int) (a3:bp):Option (List Int×Int×Bool):=
 abU (kq a3) λr1=>abU (bif !r1 then(some true) else(bif !eqB a3.cM a1 then(some true) else(abU (sY a0 a3) λr3=>bif !r3 then(some true) else(some (leB a3.fE a2))))) λ(v2:Bool)=>bif v2 then(some (([]:List Int),a2,false)) else(abU (pD a0 (WR ((WR (2*a3.fE))+a3.cM))) λr4=>abU (Cr r4 a3.bg) λr5=>some (r5,a3.fE,true))
theorem K5 {a1:Int} {a2:Int} {a3:bp} {r:List Int×Int×Bool} (H:Bk a0 a1 a2 a3=some r):Fn prog 373 [aI a0,aI a1,aI a2,.agg (eh a3)] [.c (.own 5 1 (r.1.map eU8) r.1.length),.c (.d (.i .i64 r.2.1)),.c (.d (.b r.2.2))]:=by
 refine fI func373 ntmps373 ?_
 refine aa H λr1 q1 H=>nA (ca (hF:=tU q1)) ?_
 refine aa H λv2 Hj H=>jR ⟨[(0,tI a0),(2,tI a2),(7,tP 0),(31,tB v2)],[(0,.var 45 (kM [.f] (pf a3)))],1⟩ ?_ ?_
 .refine gC Hj ?_ ?_<;>intro H
  .exact ai H
  refine gC H ?_ ?_<;>intro H
  .exact ai H
  refine aa H λr3 q3 H=>nG (ca (hF:=CB q3)) ?_
  exact az H
 refine cC H ?_ ?_<;>intro H
 .exact ao H
 refine dI ?_
 refine aa H λr4 q4 H=>dA (ca (hF:=wR q4)) ?_
 refine aa H λr5 q5 H=>dA (ca (hF:=OL q5)) ?_
 refine wI ?_
 exact ao H
def mg (a0:kZ) (a1:cA):Option (kZ×ig):=
 abU (oO a0) λr1=>bif !r1 then(some (a0,{eC with Code:=1})) else(abU (mE a0.eP a0.dm a1) λr2=>bif eqB r2 0 then(abU (kt a0.eP a1.er a1.fY) λr3=>abU (fa a0.eP [3,a1.er]) λr4=>abU (iI a0.eP a1.er r3) λr5=>some ({a0 with dm:=r3},{eC with vT:=r4,vU:=r5.eP})) else(abU (bif eqB r2 2 then(some (eqB r2 2)) else(some (eqB r2 3))) λ(v6:Bool)=>bif v6 then(abU (rJ a0.eP a1.er a0.dm) λr7=>some (a0,{eC with Code:=r2,Pr:=r7})) else(some (a0,{eC with Code:=r2}))))
theorem xS {a0:kZ} {a1:cA} {r:kZ×ig} (H:mg a0 a1=some r):Fn prog 375 [.agg (Ge a0),.agg (lK a1)] [.agg (qM [] (uH r.1)),.agg (qM [] (fZ r.2))]:=by
 refine fI func375 ntmps375 ?_
 refine aa H λr1 q1 H=>nA (ca (hF:=y4 q1)) ?_
 refine cC H ?_ ?_<;>intro H
 .exact ao H
 refine aa H λr2 q2 H=>nA (ca (hF:=xL q2)) ?_
 refine cC H ?_ ?_<;>intro H
 .refine aa H λr3 q3 H=>nA (ca (hF:=ue q3)) ?_
  refine nO [0,1,2,3,4,5,6,7,8,9,10,11,12,13,14,15,16] (h:=?_)
  refine wkb ?_
  refine uF rfl (bsx (bs rfl rfl rfl rfl rfl rfl rfl rfl) rfl) ?_
  refine wkb ?_
  refine aa H λr4 q4 H=>iS rfl (ca (hF:=eS q4)) ?_
  refine wkb ?_
  refine aa H λr5 q5 H=>iS rfl (ca (hF:=lR q5)) ?_
  refine wkb ?_
  refine uF rfl (spx 100460) ?_
  refine wkb ?_
  refine uF rfl (spx 100459) ?_
  refine wkb ?_
  refine wI ?_
  exact ao H
 refine aa H λv6 Hj H=>jA ⟨[(2,tP 0),(3,tP 1),(4,tP 2),(5,tP 3),(6,tI r2),(48,tB v6)],[(0,.var 89 (kM [] (uH a0))),(1,.var 41 (kM [] (ei a1))),(2,.var 89 (kM [] (uH H3))),(3,.var 274 (kM [] (fZ eC)))],4⟩ ?_ ?_
 .exact az Hj
 refine cC H ?_ ?_<;>intro H
 .refine zI (hV 12) ?_
  refine aa H λr7 q7 H=>zA (ca (hF:=Hq q7)) ?_
  refine wA (spx 100462) ?_
  refine wA (spx 100461) ?_
  exact ao H
 exact ao H
def p3 (a0:ab) (r1:bN):(Int×List ah)->Option (cq (Int×List ah) (List ah))
 |(v5,v6)=>bif ltB v5 (v6.length:Int) then(abU (mA a0.ef v5) λr14=>abU (mA r1 v5) λr15=>abU (bif !eqB r14 r15 then(abU (ix v6 v5) λx17=>abU (zZ x17) λr18=>abU (ix v6 v5) λx19=>some (v6.set (v5).toNat r18)) else(some v6)) λ(v16:List ah)=>some (.next (WR (v5+1),v16))) else(some (.done v6))
def xf (a0:ab) (a1:Int) (a2:Bool):Option (Bool×ab):=
 abU (rK a0.ef a1 a2) λr1=>abU (dB a1 0 (WR (a0.ef.fo-1))) λr2=>abU (bif !r2 then(some true) else(abU (qp a0.ef a1) λr4=>bif booB r4 a2 then(some true) else(some (eqB r1.fj 0)))) λ(v3:Bool)=>bif v3 then(some (false,a0)) else(abU (iter (p3 a0 r1) FU (0,a0.aF)) λ(v13:List ah)=>some (true,{a0 with aF:=v13,ef:=r1}))
theorem Li {a0:ab} {a1:Int} {a2:Bool} {r:Bool×ab} (H:xf a0 a1 a2=some r):FnV prog 195 (nS a0) [tP 200,tI a1,tB a2] (nS r.2) (.v (.c (.d false (.b r.1)))) []:=by
 refine fV func195 ntmps195 ?_
 refine aa H λr1 q1 H=>nA (ca (hF:=Hu q1)) ?_
 refine aa H λr2 q2 H=>nA (ca (hF:=cm q2)) ?_
 refine aa H λv3 Hj H=>jR ⟨[(0,tP 200),(7,tP 210),(40,tB v3)],(nS a0++[(210,.var 32 (kM [] (eR r1)))]),211⟩ ?_ ?_
 .refine gC Hj ?_ ?_<;>intro H
  .exact ai H
  refine aa H λr4 q4 H=>nG (ca (hF:=AG q4)) ?_
  exact az H
 refine cC H ?_ ?_<;>intro H
 .cases H
  exact cd
 refine aa H λv13 Hj H=>jB ⟨[],(nS {a0 with aF:=v13,ef:=r1}),210⟩ ?_ ?_
 .refine iT Hj (λq=>⟨[(0,tP 200),(7,tP 210),(8,tP 211),(9,tI q.1)],(nS {a0 with aF:=q.2,ef:=r1}++[(210,.var 32 (kM [] (eR r1))),(211,.var 32 (kM [] (eR a0.ef)))]),212⟩) ?_
  rintro⟨v5,v6⟩ o H
  refine ad ?_
  refine cC H ?_ ?_<;>intro H
  .refine dI ?_
   refine aa H λr14 q14 H=>dA (ca (hF:=xH q14)) ?_
   refine aa H λr15 q15 H=>dA (ca (hF:=xH q15)) ?_
   refine wI ?_
   refine aa H λv16 Hj H=>jA ⟨[(0,tP 200),(7,tP 210),(8,tP 211),(9,tI v5)],(nS {a0 with aF:=v16,ef:=r1}++[(210,.var 32 (kM [] (eR r1))),(211,.var 32 (kM [] (eR a0.ef)))]),212⟩ ?_ ?_
   .refine cC Hj ?_ ?_<;>intro H
    .refine zI (hV 15) ?_
     refine aa H λx17 hx17 H=>zA (qy hx17) ?_
     refine zA (KP (he:=f7 _ hx17)) ?_
     refine aa H λr18 q18 H=>zA (ca (hF:=M8 q18)) ?_
     refine aa H λx19 hx19 H=>zA (qy hx19) ?_
     refine zB (aq (bb (o:=212)) (aq (bb (o:=213)) (aq (bb (o:=214)) (aq (b7 (k:=77)) (lI 191 (hne:=yH (enc:=bU) hx19)))))) (gG rfl (soT (enc:=bU) (a':=r18) hx19)) b8 ?_
     cases H
     refine aq (ee 191) ?_
     refine aq (wB 191 ((v6.set (v5).toNat r18).length)) ?_
     exact wo
    exact ai H
   exact aN H
  exact aE H
 cases H
 exact cd
end Go.AM
