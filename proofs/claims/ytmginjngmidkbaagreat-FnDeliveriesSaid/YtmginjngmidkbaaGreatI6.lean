/- A part. -/
import Derived.Test.YtmginjngmidkbaaGreatI5
set_option linter.unusedVariables false
open Option renaming bind->abU
namespace Go.AM
open Go.Proofs
open Tryz
attribute [local irreducible] AWN NS AWO AWR AWC DR ea gL
set_option maxRecDepth 100000
set_option maxHeartbeats 40000000
def lM (a0:ah) (a1:aD):Option bI:=
 abU (bif leB a0.bE 0 then(some true) else(bif !eqB a1.ag a0.bE then(some true) else(abU (pj a0.aC a1.bL) λr2=>bif !r2 then(some true) else(some (leB 999999 a0.aT))))) λ(v1:Bool)=>bif v1 then(abU (dM a0 []) λr3=>some r3) else(abU (mx (⟨a0.bA,a0.gF,1,cg,0,a0.bE,a0.aC.eP,WR (a0.aT+1),a1.be,0,ec,a0.aM,a0.ax,a0.dP,a0.bT⟩:ah) 4) λr4=>abU (dM (⟨a0.bA,a0.gF,1,cg,0,a0.bE,a0.aC.eP,WR (a0.aT+1),a1.be,0,ec,a0.aM,a0.ax,a0.dP,a0.bT⟩:ah) [r4]) λr5=>some r5)
theorem A3 {a0:ah} {a1:aD} {r:bI} (H:lM a0 a1=some r):Fn prog 225 [.agg (bU a0),.agg (c9 a1)] [.agg (qM [.o,.o,.o,.o] (cK r))]:=by
 refine fI func225 ntmps225 ?_
 refine aa H λv1 Hj H=>jR ⟨[(2,tP 0),(3,tP 1),(4,tP 2),(27,tB v1)],[(0,.var 75 (kM [.f,.f,.f] (ct a0))),(1,.var 43 (kM [] (cP a1))),(2,.var 184 (kM [.z,.z,.z,.z] (cK fg)))],3⟩ ?_ ?_
 .refine gC Hj ?_ ?_<;>intro H
  .exact ai H
  refine gC H ?_ ?_<;>intro H
  .exact ai H
  refine aa H λr2 q2 H=>nG (ca (hF:=A4 q2)) ?_
  exact az H
 refine cC H ?_ ?_<;>intro H
 .refine aa H λr3 q3 H=>nA (ca (hF:=eA q3)) ?_
  exact ao H
 refine nO [0,1,2,3,4,5] (h:=?_)
 refine wkb ?_
 refine aa H λr4 q4 H=>iS rfl (ca (hF:=xB q4)) ?_
 refine wkb ?_
 refine uF rfl (bsx (bs rfl rfl rfl rfl rfl rfl rfl rfl) rfl) ?_
 refine wkb ?_
 refine aa H λr5 q5 H=>iS rfl (ca (hF:=eA q5)) ?_
 refine wkb ?_
 refine uF rfl (spx 100502) ?_
 refine wkb ?_
 refine wI ?_
 exact ao H
def jO (a0:ah) (a1:aD):Option bI:=
 abU (bif !eqB a0.bj 1 then(some true) else(bif !eqB a1.ag a0.ag then(some true) else(abU (jf a0.aV a1) λr2=>some (!r2)))) λ(v1:Bool)=>bif v1 then(abU (dM a0 []) λr3=>some r3) else(abU (bif ltB a1.aT a0.aT then(some true) else(bif eqB a1.aT a0.aT then(some (!eqB a1.be a0.be)) else(some false))) λ(v4:Bool)=>bif v4 then(abU (dM a0 []) λr5=>some r5) else(abU (mx {a0 with aT:=a1.aT,be:=a1.be,d6:=0,ge:=ec,dP:=0} 6) λr6=>abU (dM {a0 with aT:=a1.aT,be:=a1.be,d6:=0,ge:=ec,dP:=0} [r6]) λr7=>some r7))
theorem yp {a0:ah} {a1:aD} {r:bI} (H:jO a0 a1=some r):Fn prog 226 [.agg (bU a0),.agg (c9 a1)] [.agg (qM [.o,.o,.o,.o] (cK r))]:=by
 refine fI func226 ntmps226 ?_
 refine aa H λv1 Hj H=>jR ⟨[(2,tP 0),(3,tP 1),(4,tP 2),(21,tB v1)],[(0,.var 75 (kM [.f,.f,.f] (ct a0))),(1,.var 43 (kM [] (cP a1))),(2,.var 184 (kM [.z,.z,.z,.z] (cK fg)))],3⟩ ?_ ?_
 .refine gC Hj ?_ ?_<;>intro H
  .exact ai H
  refine gC H ?_ ?_<;>intro H
  .exact ai H
  refine aa H λr2 q2 H=>nG (ca (hF:=mQ q2)) ?_
  exact ai H
 refine cC H ?_ ?_<;>intro H
 .refine aa H λr3 q3 H=>nA (ca (hF:=eA q3)) ?_
  exact ao H
 refine aa H λv4 Hj H=>jR ⟨[(2,tP 0),(3,tP 1),(4,tP 2),(42,tB v4)],[(0,.var 75 (kM [.f,.f,.f] (ct a0))),(1,.var 43 (kM [] (cP a1))),(2,.var 184 (kM [.z,.z,.z,.z] (cK fg)))],3⟩ ?_ ?_
 .exact az Hj
 refine cC H ?_ ?_<;>intro H
 .refine aa H λr5 q5 H=>nA (ca (hF:=eA q5)) ?_
  exact ao H
 refine nO [0,1,2,3,4,5] (h:=?_)
 refine wkb ?_
 refine aa H λr6 q6 H=>iS rfl (ca (hF:=xB q6)) ?_
 refine wkb ?_
 refine uF rfl (bsx (bs rfl rfl rfl rfl rfl rfl rfl rfl) rfl) ?_
 refine wkb ?_
 refine aa H λr7 q7 H=>iS rfl (ca (hF:=eA q7)) ?_
 refine wkb ?_
 refine uF rfl (spx 100504) ?_
 refine wkb ?_
 refine wI ?_
 exact ao H
def oi (a0:ah) (a1:aD):Option bI:=
 abU (lg a1) λr1=>bif r1 then(bif eqB a1.a8 1 then(abU (oc a0 a1) λr2=>some r2) else(bif eqB a1.a8 3 then(abU (lM a0 a1) λr3=>some r3) else(bif eqB a1.a8 5 then(abU (jO a0 a1) λr4=>some r4) else(bif eqB a1.a8 8 then(abU (mP a0 a1) λr5=>some r5) else(abU (dM a0 []) λr6=>some r6))))) else(abU (dM a0 []) λr7=>some r7)
theorem Dr {a0:ah} {a1:aD} {r:bI} (H:oi a0 a1=some r):Fn prog 144 [.agg (bU a0),.agg (c9 a1)] [.agg (qM [.o,.o,.o,.o] (cK r))]:=by
 refine fI func144 ntmps144 ?_
 refine aa H λr1 q1 H=>nA (ca (hF:=vk q1)) ?_
 refine cC H ?_ ?_<;>intro H
 .refine cC H ?_ ?_<;>intro H
  .refine aa H λr2 q2 H=>nA (ca (hF:=Do q2)) ?_
   exact ao H
  refine cC H ?_ ?_<;>intro H
  .refine aa H λr3 q3 H=>nA (ca (hF:=A3 q3)) ?_
   exact ao H
  refine cC H ?_ ?_<;>intro H
  .refine aa H λr4 q4 H=>nA (ca (hF:=yp q4)) ?_
   exact ao H
  refine cC H ?_ ?_<;>intro H
  .refine aa H λr5 q5 H=>nA (ca (hF:=B2 q5)) ?_
   exact ao H
  refine aa H λr6 q6 H=>nA (ca (hF:=eA q6)) ?_
  exact ao H
 refine aa H λr7 q7 H=>nA (ca (hF:=eA q7)) ?_
 exact ao H
def sH (a0:Int) (a1:Int) (a2:Int) (a3:aA):Option (ae×Bool):=
 abU (bif !eqB a3.ag a1 then(some true) else(bif !eqB a3.aT a2 then(some true) else(abU (rp a0 a3) λr2=>some (!r2)))) λ(v1:Bool)=>bif v1 then(some (bP,false)) else(abU (rR a0 a2) λr3=>abU (wE r3 a3.bz) λr4=>some ((⟨a3.bz.fE,r4⟩:ae),true))
theorem Ib {a0:Int} {a1:Int} {a2:Int} {a3:aA} {r:ae×Bool} (H:sH a0 a1 a2 a3=some r) (hflag:r.2=true):Fn prog 81 [aI a0,aI a1,aI a2,.agg (dH a3)] [.agg (qM [.o] (di r.1)),.c (.d (.b r.2))]:=by
 refine fI func81 ntmps81 ?_
 refine aa H λv1 Hj H=>jR ⟨[(0,tI a0),(2,tI a2),(7,tP 0),(8,tP 1),(26,tB v1)],[(0,.var 47 (kM [.f] (jd a3))),(1,.var 131 (kM [.z] (di bP)))],2⟩ ?_ ?_
 .refine gC Hj ?_ ?_<;>intro H
  .exact ai H
  refine gC H ?_ ?_<;>intro H
  .exact ai H
  refine aa H λr2 q2 H=>nG (ca (hF:=yu q2)) ?_
  exact ai H
 refine cC H ?_ ?_<;>intro H
 .cases H
  cases hflag
 refine dI ?_
 refine aa H λr3 q3 H=>dA (ca (hF:=yo q3)) ?_
 refine aa H λr4 q4 H=>dA (ca (hF:=yD q4)) ?_
 refine wI ?_
 exact ao H
theorem Ia {a0:Int} {a1:Int} {a2:Int} {a3:aA} {r:ae×Bool} (H:sH a0 a1 a2 a3=some r) (hflag:r.2=false):Fn prog 81 [aI a0,aI a1,aI a2,.agg (dH a3)] [.agg (qM [.z] (di r.1)),.c (.d (.b r.2))]:=by
 refine fI func81 ntmps81 ?_
 refine aa H λv1 Hj H=>jR ⟨[(0,tI a0),(2,tI a2),(7,tP 0),(8,tP 1),(26,tB v1)],[(0,.var 47 (kM [.f] (jd a3))),(1,.var 131 (kM [.z] (di bP)))],2⟩ ?_ ?_
 .refine gC Hj ?_ ?_<;>intro H
  .exact ai H
  refine gC H ?_ ?_<;>intro H
  .exact ai H
  refine aa H λr2 q2 H=>nG (ca (hF:=yu q2)) ?_
  exact ai H
 refine cC H ?_ ?_<;>intro H
 .exact ao H
 refine dI ?_
 refine aa H λr3 q3 H=>dA (ca (hF:=yo q3)) ?_
 refine aa H λr4 q4 H=>dA (ca (hF:=yD q4)) ?_
 refine wI ?_
 cases H
 cases hflag
def pO (a0:aJ) (a1:aA):Option a9:=
 bif !eqB a0.bj 2 then(abU (cO a0 []) λr1=>some r1) else(abU (sH a0.aV a0.ag a0.aT a1) λr2=>bif r2.2 then(abU (og a0.bV r2.1) λr3=>abU (nu a0.aV (⟨8,a0.be,a0.ag,a0.aT,r3.bB,cg,0⟩:aD)) λr4=>abU (cO {a0 with bV:=r3} [r4]) λr5=>some r5) else(abU (cO a0 []) λr6=>some r6))
theorem EO {a0:aJ} {a1:aA} {r:a9} (H:pO a0 a1=some r):Fn prog 147 [.agg (cS a0),.agg (dH a1)] [.agg (qM [.o,.o,.o] (cf r))]:=by
 refine fI func147 ntmps147 ?_
 refine cC H ?_ ?_<;>intro H
 .refine aa H λr1 q1 H=>nA (ca (hF:=ey q1)) ?_
  exact ao H
 obtain⟨r2,q2,H⟩:=ob H
 rcases hb:r2.2 with _|_
 .have H:=bf hb H
  refine xr rfl (ca (hF:=Ia q2 hb)) ?_
  simp only[hb]
  refine wI ?_
  refine aa H λr6 q6 H=>nA (ca (hF:=ey q6)) ?_
  exact ao H
 have H:=bt hb H
 refine xr rfl (ca (hF:=Ib q2 hb)) ?_
 simp only[hb]
 refine wI ?_
 refine aa H λr3 q3 H=>nA (ca (hF:=Dp q3)) ?_
 refine nO [0,1,2,3,4,5,6,7] (h:=?_)
 refine wkb ?_
 refine aa H λr4 q4 H=>iS rfl (ca (hF:=uN q4)) ?_
 refine wkb ?_
 refine uF rfl (bsx (bs rfl rfl rfl rfl rfl rfl rfl rfl) rfl) ?_
 refine wkb ?_
 refine aa H λr5 q5 H=>iS rfl (ca (hF:=ey q5)) ?_
 refine wkb ?_
 refine uF rfl (spx 100522) ?_
 refine wkb ?_
 refine wI ?_
 exact ao H
def qd (a0:aJ):Option aD:=
 abU (nu a0.aV (⟨5,a0.be,a0.ag,a0.aT,0,cg,0⟩:aD)) λr1=>some r1
theorem Ie {a0:aJ} {r:aD} (H:qd a0=some r):Fn prog 235 [.agg (cS a0)] [.agg (qM [] (cP r))]:=by
 refine fI func235 ntmps235 ?_
 refine aa H λr1 q1 H=>nA (ca (hF:=uN q1)) ?_
 exact ao H
def ik (a0:aJ):Option a9:=
 abU (qd {a0 with cj:=false,eU:=3}) λr1=>abU (cO {a0 with cj:=false,eU:=3} [r1]) λr2=>some r2
theorem xy {a0:aJ} {r:a9} (H:ik a0=some r):Fn prog 233 [.agg (cS a0)] [.agg (qM [.o,.o,.o] (cf r))]:=by
 refine fI func233 ntmps233 ?_
 refine nO [0,1,2,3,4,5] (h:=?_)
 refine wkb ?_
 refine aa H λr1 q1 H=>iS rfl (ca (hF:=Ie q1)) ?_
 refine wkb ?_
 refine uF rfl (bsx (bs rfl rfl rfl rfl rfl rfl rfl rfl) rfl) ?_
 refine wkb ?_
 refine aa H λr2 q2 H=>iS rfl (ca (hF:=ey q2)) ?_
 refine wkb ?_
 refine uF rfl (spx 100528) ?_
 refine wkb ?_
 refine wI ?_
 exact ao H
def oh (a0:aJ) (a1:aD):Option a9:=
 abU (lg a1) λr1=>abU (bif !r1 then(some true) else(bif !eqB a1.be a0.be then(some true) else(some (eqB a0.bj 0)))) λ(v2:Bool)=>bif v2 then(abU (cO a0 []) λr3=>some r3) else(bif eqB a1.a8 2 then(bif eqB a0.bj 1 then(abU (lN a0 a1) λr4=>some r4) else(abU (cO a0 []) λr5=>some r5)) else(bif eqB a1.a8 4 then(abU (bif eqB a0.bj 1 then(abU (gJ a0.aV) λr7=>bif r7 then(bif eqB a1.ag a0.ag then(abU (jf a0.aV a1) λr8=>some r8) else(some false)) else(some false)) else(some false)) λ(v6:Bool)=>abU (bif v6 then(some {a0 with bj:=2,aT:=a1.aT,cj:=true}) else(some a0)) λ(v12:aJ)=>abU (cO v12 []) λr13=>some r13) else(bif eqB a1.a8 6 then(abU (bif eqB a0.bj 2 then(bif eqB a1.ag a0.ag then(bif eqB a1.aT a0.aT then(abU (jf a0.aV a1) λr15=>some r15) else(some false)) else(some false)) else(some false)) λ(v14:Bool)=>abU (bif v14 then(some true) else(some a0.cj)) λ(v16:Bool)=>abU (cO {a0 with cj:=v16} []) λr17=>some r17) else(bif eqB a1.a8 7 then(abU (bif eqB a0.bj 3 then(some (ltB a0.aT 999999)) else(some false)) λ(v18:Bool)=>bif v18 then(abU (ik {a0 with bj:=2,aT:=WR (a0.aT+1)}) λr19=>some r19) else(bif eqB a0.bj 2 then(abU (ik a0) λr20=>some r20) else(abU (cO a0 []) λr21=>some r21))) else(abU (cO a0 []) λr22=>some r22)))))
theorem Dq {a0:aJ} {a1:aD} {r:a9} (H:oh a0 a1=some r):Fn prog 148 [.agg (cS a0),.agg (c9 a1)] [.agg (qM [.o,.o,.o] (cf r))]:=by
 refine fI func148 ntmps148 ?_
 refine aa H λr1 q1 H=>nA (ca (hF:=vk q1)) ?_
 refine aa H λv2 Hj H=>jR ⟨[(2,tP 0),(3,tP 1),(4,tP 2),(19,tB v2)],[(0,.var 93 (kM [.f,.f] (dt a0))),(1,.var 43 (kM [] (cP a1))),(2,.var 189 (kM [.z,.z,.z] (cf dZ)))],3⟩ ?_ ?_
 .exact az Hj
 refine cC H ?_ ?_<;>intro H
 .refine aa H λr3 q3 H=>nA (ca (hF:=ey q3)) ?_
  exact ao H
 refine cC H ?_ ?_<;>intro H
 .refine cC H ?_ ?_<;>intro H
  .refine aa H λr4 q4 H=>nA (ca (hF:=A5 q4)) ?_
   exact ao H
  refine aa H λr5 q5 H=>nA (ca (hF:=ey q5)) ?_
  exact ao H
 refine cC H ?_ ?_<;>intro H
 .refine aa H λv6 Hj H=>jR ⟨[(2,tP 0),(3,tP 1),(4,tP 2),(54,tB v6)],[(0,.var 93 (kM [.f,.f] (dt a0))),(1,.var 43 (kM [] (cP a1))),(2,.var 189 (kM [.z,.z,.z] (cf dZ)))],3⟩ ?_ ?_
  .refine gC Hj ?_ ?_<;>intro H
   .refine aa H λr7 q7 H=>nG (ca (hF:=ij q7)) ?_
    refine gC H ?_ ?_<;>intro H
    .refine gC H ?_ ?_<;>intro H
     .refine aa H λr8 q8 H=>nG (ca (hF:=mQ q8)) ?_
      exact ai H
     exact ai H
    exact ai H
   exact ai H
  refine aa H λv12 Hj H=>jA ⟨[(2,tP 0),(4,tP 2)],[(0,.var 93 (kM [.f,.f] (dt v12))),(2,.var 189 (kM [.z,.z,.z] (cf dZ)))],3⟩ ?_ ?_
  .exact az Hj
  refine aa H λr13 q13 H=>nA (ca (hF:=ey q13)) ?_
  exact ao H
 refine cC H ?_ ?_<;>intro H
 .refine aa H λv14 Hj H=>jR ⟨[(2,tP 0),(4,tP 2),(84,tB v14)],[(0,.var 93 (kM [.f,.f] (dt a0))),(2,.var 189 (kM [.z,.z,.z] (cf dZ)))],3⟩ ?_ ?_
  .refine gC Hj ?_ ?_<;>intro H
   .refine gC H ?_ ?_<;>intro H
    .refine gC H ?_ ?_<;>intro H
     .refine aa H λr15 q15 H=>nG (ca (hF:=mQ q15)) ?_
      exact ai H
     exact ai H
    exact ai H
   exact ai H
  refine aa H λv16 Hj H=>jA ⟨[(2,tP 0),(4,tP 2)],[(0,.var 93 (kM [.f,.f] (dt {a0 with cj:=v16}))),(2,.var 189 (kM [.z,.z,.z] (cf dZ)))],3⟩ ?_ ?_
  .exact az Hj
  refine aa H λr17 q17 H=>nA (ca (hF:=ey q17)) ?_
  exact ao H
 refine cC H ?_ ?_<;>intro H
 .refine aa H λv18 Hj H=>jR ⟨[(2,tP 0),(4,tP 2),(95,tB v18)],[(0,.var 93 (kM [.f,.f] (dt a0))),(2,.var 189 (kM [.z,.z,.z] (cf dZ)))],3⟩ ?_ ?_
  .exact az Hj
  refine cC H ?_ ?_<;>intro H
  .refine aa H λr19 q19 H=>nA (ca (hF:=xy q19)) ?_
   exact ao H
  refine cC H ?_ ?_<;>intro H
  .refine aa H λr20 q20 H=>nA (ca (hF:=xy q20)) ?_
   exact ao H
  refine aa H λr21 q21 H=>nA (ca (hF:=ey q21)) ?_
  exact ao H
 refine aa H λr22 q22 H=>nA (ca (hF:=ey q22)) ?_
 exact ao H
def vm (a0:ab) (a1:Int):Option ab:=
 abU (qg a0 a1) λr1=>abU (vj r1.2 r1.1.be) λr2=>abU (bif !r2 then(some {r1.2 with jr:=WR (r1.2.jr+1)}) else(abU (bif r1.1.eH then(bif r1.1.dR then(some true) else(some (!eqB r1.1.bh.be r1.1.be))) else(some false)) λ(v14:Bool)=>abU (bif v14 then(some r1.2) else(abU (bif r1.1.eH then(abU (ix r1.2.aF r1.1.bk) λx37=>abU (oi x37 r1.1.bh) λr38=>abU (ix r1.2.aF r1.1.bk) λx39=>abU (ky {r1.2 with aF:=(r1.2.aF.set (r1.1.bk).toNat r38.aZ)} r1.1.bk r38.db) λr40=>some r40) else(abU (ix r1.2.av r1.1.bk) λx41=>abU (bif !eqB x41.be r1.1.be then(some {r1.2 with jr:=WR (r1.2.jr+1)}) else(abU (bif r1.1.dR then(abU (ix r1.2.av r1.1.bk) λx64=>abU (pO x64 r1.1.cz) λr65=>abU (gE r1.2 r1.1.bk r65) λr66=>some r66) else(abU (ix r1.2.av r1.1.bk) λx67=>abU (oh x67 r1.1.bh) λr68=>abU (gE r1.2 r1.1.bk r68) λr69=>some r69)) λ(v63:ab)=>some v63)) λ(v52:ab)=>some v52)) λ(v36:ab)=>some v36)) λ(v25:ab)=>some v25)) λ(v13:ab)=>some v13
theorem GC {a0:ab} {a1:Int} {r:ab} (H:vm a0 a1=some r):FnV prog 90 (nI a0) [tP 200,tI a1] (nI r) (.tup []) []:=by
 refine fV func90 ntmps90 ?_
 refine aa H λr1 q1 H=>sA (cwu m0 [] 210 (Ih q1)) ?_
 refine dI ?_
 refine aa H λr2 q2 H=>dA (ca (hF:=Mi q2)) ?_
 refine wI ?_
 refine aa H λv13 Hj H=>jA ⟨[],(nI v13),210⟩ ?_ ?_
 .refine cC Hj ?_ ?_<;>intro H
  .exact ai H
  refine aa H λv14 Hj H=>jR ⟨[(0,tP 200),(4,tP 210),(5,tI r1.1.bk),(40,tB v14)],(nI r1.2++[(210,.var 49 (kM [.t] (jt r1.1)))]),211⟩ ?_ ?_
  .exact az Hj
  refine aa H λv25 Hj H=>jA ⟨[],(nI v25),210⟩ ?_ ?_
  .refine cC Hj ?_ ?_<;>intro H
   .exact ai H
   refine aa H λv36 Hj H=>jA ⟨[],(nI v36),210⟩ ?_ ?_
   .refine cC Hj ?_ ?_<;>intro H
    .refine zI (List.range 12) ?_
     refine aa H λx37 hx37 H=>zA (xwT hx37) ?_
     refine zA (oea (he:=f7 _ hx37)) ?_
     refine aa H λr38 q38 H=>zA (ca (hF:=Dr q38)) ?_
     refine wA (spx 100544) ?_
     refine zI (List.range 9) ?_
     refine aa H λx39 hx39 H=>zA (xwT hx39) ?_
     refine zB (aq (bb (o:=211)) (aq (bb (o:=212)) (aq (bb (o:=213)) (b7 (k:=74))))) (gG rfl (soT (enc:=bU) (a':=r38.aZ) hx39)) b8 ?_
     refine aa H λr40 q40 H=>bQ (bb (o:=214)) ?_
     refine bQ (b7 (k:=79)) ?_
     refine bQ (wB 191 ((r1.2.aF.set (r1.1.bk).toNat r38.aZ).length)) ?_
     refine sA (cwu m0 [] 216 (ET q40)) ?_
     exact ai H
    refine dI ?_
    refine aa H λx41 hx41 H=>dA (xwT hx41) ?_
    refine dA (oe (he:=f7 _ hx41)) ?_
    refine wI ?_
    refine aa H λv52 Hj H=>jA ⟨[],(nI v52),210⟩ ?_ ?_
    .refine cC Hj ?_ ?_<;>intro H
     .exact ai H
     refine aa H λv63 Hj H=>jA ⟨[],(nI v63),210⟩ ?_ ?_
     .refine cC Hj ?_ ?_<;>intro H
      .refine zI (List.range 13) ?_
       refine aa H λx64 hx64 H=>zA (xwT hx64) ?_
       refine zA (oea (he:=f7 _ hx64)) ?_
       refine aa H λr65 q65 H=>zA (ca (hF:=EO q65)) ?_
       refine aa H λr66 q66 H=>zB (aq (bb (o:=211)) (aq (bb (o:=212)) (aq (bb (o:=213)) (b7 (k:=114))))) (gG rfl (cwu m0 [] 214 (yG q66))) b8 ?_
       exact ai H
      refine zI (List.range 13) ?_
      refine aa H λx67 hx67 H=>zA (xwT hx67) ?_
      refine zA (oea (he:=f7 _ hx67)) ?_
      refine aa H λr68 q68 H=>zA (ca (hF:=Dq q68)) ?_
      refine aa H λr69 q69 H=>zB (aq (bb (o:=211)) (aq (bb (o:=212)) (aq (bb (o:=213)) (b7 (k:=23))))) (gG rfl (cwu m0 [] 214 (yG q69))) b8 ?_
      exact ai H
     exact ai H
    exact ai H
   exact ai H
  exact ai H
 cases H
 exact mn
end Go.AM
