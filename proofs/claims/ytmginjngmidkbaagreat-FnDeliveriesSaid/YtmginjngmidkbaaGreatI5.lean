/- A part. -/
import Derived.Test.YtmginjngmidkbaaGreatI4
set_option linter.unusedVariables false
open Option renaming bind->abU
namespace Go.AM
open Go.Proofs
open Tryz
attribute [local irreducible] AWN NS AWO AWR AWC DR ea gL
set_option maxRecDepth 100000
set_option maxHeartbeats 40000000
variable {a0 a1 r:Int}
def qD (a0:aP) (a1:Int):Option (aP×cA):=
 abU (fH a0) λr1=>abU (bif !r1 then(some true) else(some (eqB a0.cV 999999))) λ(v2:Bool)=>bif v2 then(some (a0,cg)) else(abU (li a0.eP a1 (WR (a0.cV+1))) λr3=>some ({a0 with cV:=WR (a0.cV+1)},r3))
theorem B1 {a0:aP} {r:aP×cA} (H:qD a0 a1=some r):Fn prog 297 [.agg (cQ a0),aI a1] [.agg (qM [] (gm r.1)),.agg (qM [] (ei r.2))]:=by
 refine fI func297 ntmps297 ?_
 refine aa H λr1 q1 H=>nA (ca (hF:=lh q1)) ?_
 refine aa H λv2 Hj H=>jR ⟨[(1,tI a1),(2,tP 0),(4,tP 1),(5,tP 2),(13,tB v2)],[(0,.var 62 (kM [] (gm a0))),(1,.var 62 (kM [] (gm nq))),(2,.var 41 (kM [] (ei cg)))],3⟩ ?_ ?_
 .exact az Hj
 refine cC H ?_ ?_<;>intro H
 .exact ao H
 refine zI (List.range 9) ?_
 refine aa H λr3 q3 H=>zA (ca (hF:=vl q3)) ?_
 refine wA (spx 100496) ?_
 refine wA (spx 100495) ?_
 exact ao H
def oc (a0:ah) (a1:aD):Option bI:=
 abU (nV a0.bA.ID (WR (a0.bA.cV+1))) λr1=>abU (qD a0.bA r1) λr2=>bif(eqB r2.1.ID.dN a0.bA.ID.dN&&(eqB r2.1.ID.bL a0.bA.ID.bL&&(eqB r2.1.eP a0.bA.eP&&(eqB r2.1.cV a0.bA.cV&&true)))) then(abU (dM a0 []) λr3=>some r3) else(abU (dM {a0 with bA:=r2.1,aC:=r2.2,bE:=r2.1.cV} [(⟨2,a1.be,r2.1.cV,0,0,r2.2,0⟩:aD)]) λr4=>some r4)
theorem Do {a0:ah} {a1:aD} {r:bI} (H:oc a0 a1=some r):Fn prog 224 [.agg (bU a0),.agg (c9 a1)] [.agg (qM [.o,.o,.o,.o] (cK r))]:=by
 refine fI func224 ntmps224 ?_
 refine zI (List.range 18) ?_
 refine aa H λr1 q1 H=>zA (ca (hF:=Dj q1)) ?_
 refine aa H λr2 q2 H=>zA (ca (hF:=B1 q2)) ?_
 refine wA (spx 100500) ?_
 refine wA (spx 100499) ?_
 refine cC H ?_ ?_<;>intro H
 .refine aa H λr3 q3 H=>nA (ca (hF:=eA q3)) ?_
  exact ao H
 refine aa H λr4 q4 H=>nA (ca (hF:=eA q4)) ?_
 exact ao H
def ke (a1:List Int):(Int×Int)->Option (cq (Int×Int) (Int))
 |(v1,v2)=>bif ltB v2 (a1.length:Int) then(abU (ix a1 v2) λx6=>abU (ph v1 x6) λr7=>some (.next (r7,WR (v2+1)))) else(some (.done v1))
def wC (a0:Int) (a1:List Int):Option Int:=
 abU (iter (ke a1) FU (a0,0)) λ(v5:Int)=>some v5
theorem GD {a1:List Int} (H:wC a0 a1=some r):Fn prog 296 [aI a0,aL (a1.map eI)] [.c (.d (.i .i64 r))]:=by
 refine fI func296 ntmps296 ?_
 refine aa H λv5 Hj H=>jB ⟨[(0,tI v5)],[],0⟩ ?_ ?_
 .refine iT Hj (λq=>⟨[(0,tI q.1),(7,.v (.c (.d false (.l (a1.map eI))))),(8,tI (a1.length:Int)),(9,tI q.2)],[],0⟩) ?_
  rintro⟨v1,v2⟩ o H
  refine ad ?_
  refine cC H ?_ ?_<;>intro H
  .refine aa H λx6 hx6 H=>nA (xdT (enc:=eI) hx6) ?_
   refine aa H λr7 q7 H=>nA (ca (hF:=BX q7)) ?_
   exact aN H
  exact aE H
 exact ao H
def p8 (a0:Int) (a1:fF):Option Int:=
 abU (wC a0 a1.Steps) λr1=>some r1
theorem Au {a1:fF} (H:p8 a0 a1=some r):Fn prog 219 [aI a0,.agg (IU a1)] [.c (.d (.i .i64 r))]:=by
 refine fI func219 ntmps219 ?_
 refine aa H λr1 q1 H=>nA (ca (hF:=GD q1)) ?_
 exact ao H
def sI (a0:Int) (a1:aD):Option Int:=
 abU (oo) λr1=>abU (p8 a0 r1) λr2=>abU (eY r2 [23,a1.a8,a1.be,a1.ag,a1.aT,a1.bL]) λr3=>some r3
theorem B4 {a1:aD} (H:sI a0 a1=some r):Fn prog 199 [aI a0,.agg (c9 a1)] [.c (.d (.i .i64 r))]:=by
 refine fI func199 ntmps199 ?_
 refine aa H λr1 q1 H=>nA (ca (hF:=Aj q1)) ?_
 refine aa H λr2 q2 H=>nA (ca (hF:=Au q2)) ?_
 refine aa H λr3 q3 H=>nA (ca (hF:=fL q3)) ?_
 exact ao H
def nu (a0:Int) (a1:aD):Option aD:=
 abU (sI a0 a1) λr1=>some {a1 with iM:=r1}
theorem uN {a1:aD} {r:aD} (H:nu a0 a1=some r):Fn prog 231 [aI a0,.agg (c9 a1)] [.agg (qM [] (cP r))]:=by
 refine fI func231 ntmps231 ?_
 refine aa H λr1 q1 H=>nA (ca (hF:=B4 q1)) ?_
 exact ao H
def mx (a0:ah) (a1:Int):Option aD:=
 abU (nu a0.aV (⟨a1,a0.be,a0.ag,a0.aT,0,cg,0⟩:aD)) λr1=>some r1
theorem xB {a0:ah} {r:aD} (H:mx a0 a1=some r):Fn prog 300 [.agg (bU a0),aI a1] [.agg (qM [] (cP r))]:=by
 refine fI func300 ntmps300 ?_
 refine aa H λr1 q1 H=>nA (ca (hF:=uN q1)) ?_
 exact ao H
def jf (a0:Int) (a1:aD):Option Bool:=
 abU (sI a0 a1) λr1=>some (eqB a1.iM r1)
theorem mQ {a1:aD} {r:Bool} (H:jf a0 a1=some r):Fn prog 118 [aI a0,.agg (c9 a1)] [.c (.d (.b r))]:=by
 refine fI func118 ntmps118 ?_
 refine dI ?_
 refine aa H λr1 q1 H=>dA (ca (hF:=B4 q1)) ?_
 refine wI ?_
 exact ao H
def jN (a0:ah) (a1:aD):(Int×Int)->Option (cq (Int×Int) (Int))
 |(v4,v5)=>bif ltB v5 (a0.ax.aw.length:Int) then(abU (ix a0.ax.aw v5) λx9=>abU (bif ltB x9.cV a1.bL then(some (WR (v4+(x9.bg.length:Int)))) else(some v4)) λ(v10:Int)=>some (.next (v10,WR (v5+1)))) else(some (.done v4))
def mP (a0:ah) (a1:aD):Option bI:=
 abU (bif !eqB a0.bj 1 then(some true) else(bif !eqB a1.ag a0.ag then(some true) else(abU (jf a0.aV a1) λr2=>bif !r2 then(some true) else(some (ltB a0.ax.bB a1.bL))))) λ(v1:Bool)=>bif v1 then(abU (dM a0 []) λr3=>some r3) else(abU (iter (jN a0 a1) FU (0,0)) λ(v8:Int)=>abU (pN a0.bT v8) λr11=>abU (kG a0.ax a1.bL) λr12=>abU (dM {a0 with d6:=0,ax:=r12,bT:=r11.1} []) λr13=>some r13)
theorem B2 {a0:ah} {a1:aD} {r:bI} (H:mP a0 a1=some r):Fn prog 227 [.agg (bU a0),.agg (c9 a1)] [.agg (qM [.o,.o,.o,.o] (cK r))]:=by
 refine fI func227 ntmps227 ?_
 refine aa H λv1 Hj H=>jR ⟨[(2,tP 0),(3,tP 1),(4,tP 2),(32,tB v1)],[(0,.var 75 (kM [.f,.f,.f] (ct a0))),(1,.var 43 (kM [] (cP a1))),(2,.var 184 (kM [.z,.z,.z,.z] (cK fg)))],3⟩ ?_ ?_
 .refine gC Hj ?_ ?_<;>intro H
  .exact ai H
  refine gC H ?_ ?_<;>intro H
  .exact ai H
  refine aa H λr2 q2 H=>nG (ca (hF:=mQ q2)) ?_
  exact az H
 refine cC H ?_ ?_<;>intro H
 .refine aa H λr3 q3 H=>nA (ca (hF:=eA q3)) ?_
  exact ao H
 refine aa H λv8 Hj H=>jB ⟨[(2,tP 0),(3,tP 1),(4,tP 2),(5,tI v8)],[(0,.var 75 (kM [.f,.f,.f] (ct a0))),(1,.var 43 (kM [] (cP a1))),(2,.var 184 (kM [.z,.z,.z,.z] (cK fg)))],3⟩ ?_ ?_
 .refine iT Hj (λq=>⟨[(2,tP 0),(3,tP 1),(4,tP 2),(5,tI q.1),(37,.v (.c (.d false (.l (a0.ax.aw.map an))))),(38,tI (a0.ax.aw.length:Int)),(39,tI q.2)],[(0,.var 75 (kM [.f,.f,.f] (ct a0))),(1,.var 43 (kM [] (cP a1))),(2,.var 184 (kM [.z,.z,.z,.z] (cK fg)))],3⟩) ?_
  rintro⟨v4,v5⟩ o H
  refine ad ?_
  refine cC H ?_ ?_<;>intro H
  .refine aa H λx9 hx9 H=>nA (xdT (enc:=an) hx9) ?_
   refine aa H λv10 Hj H=>jA ⟨[(2,tP 0),(3,tP 1),(4,tP 2),(5,tI v10),(37,.v (.c (.d false (.l (a0.ax.aw.map an))))),(38,tI (a0.ax.aw.length:Int)),(39,tI v5)],[(0,.var 75 (kM [.f,.f,.f] (ct a0))),(1,.var 43 (kM [] (cP a1))),(2,.var 184 (kM [.z,.z,.z,.z] (cK fg)))],3⟩ ?_ ?_
   .exact az Hj
   exact aN H
  exact aE H
 refine aa H λr11 q11 H=>nA (ca (hF:=EM q11)) ?_
 refine aa H λr12 q12 H=>nA (ca (hF:=Ah q12)) ?_
 refine aa H λr13 q13 H=>nA (ca (hF:=eA q13)) ?_
 exact ao H
def jx (a1:Int) (a2:List aD):(Int×ab)->Option (cq (Int×ab) (ab))
 |(v1,v12)=>bif ltB v1 (a2.length:Int) then(abU (ix a2 v1) λx26=>abU (qf v12 {eF with bk:=a1,be:=x26.be,bh:=x26}) λr27=>some (.next (WR (v1+1),r27))) else(some (.done v12))
def ky (a0:ab) (a1:Int) (a2:List aD):Option ab:=
 abU (iter (jx a1 a2) FU (0,a0)) λ(v25:ab)=>some v25
theorem ET {a0:ab} {a2:List aD} {r:ab} (H:ky a0 a1 a2=some r):FnV prog 145 (nI a0) [tP 200,tI a1,.v (.c (.d true (.l (a2.map c9))))] (nI r) (.tup []) []:=by
 refine fV func145 ntmps145 ?_
 refine aa H λv25 Hj H=>jB ⟨[],(nI v25),210⟩ ?_ ?_
 .refine iT Hj (λq=>⟨[(0,tP 200),(1,tI a1),(8,.v (.c (.d true (.l (a2.map c9))))),(9,tI (a2.length:Int)),(10,tI q.1)],(nI q.2),210⟩) ?_
  rintro⟨v1,v12⟩ o H
  refine ad ?_
  refine cC H ?_ ?_<;>intro H
  .refine aa H λx26 hx26 H=>nA (xdT (enc:=c9) hx26) ?_
   refine aa H λr27 q27 H=>sA (cwu m0 [] 211 (P4 q27)) ?_
   exact aN H
  exact aE H
 cases H
 exact mn
def kh (a1:Int) (a2:a9):(Int×ab)->Option (cq (Int×ab) (ab))
 |(v2,v13)=>bif ltB v2 (a2.db.length:Int) then(abU (ix a2.db v2) λx27=>abU (qf v13 (⟨a1,true,false,x27.be,x27,eE⟩:bF)) λr28=>some (.next (WR (v2+1),r28))) else(some (.done v13))
def gE (a0:ab) (a1:Int) (a2:a9):Option ab:=
 abU (ix a0.av a1) λx1=>abU (iter (kh a1 a2) FU (0,{a0 with av:=(a0.av.set (a1).toNat a2.bk)})) λ(v26:ab)=>some v26
theorem yG {a0:ab} {a2:a9} {r:ab} (H:gE a0 a1 a2=some r):FnV prog 146 (nI a0) [tP 200,tI a1,.v (.agg (kM [.t,.t,.t] (cf a2)))] (nI r) (.tup []) []:=by
 refine fV func146 ntmps146 ?_
 refine zI (List.range 9) ?_
 refine aa H λx1 hx1 H=>zA (xwT hx1) ?_
 refine zB b8 (gG rfl (soT (enc:=cS) (a':=a2.bk) hx1)) b8 ?_
 refine aa H λv26 Hj H=>jB ⟨[],(nI v26),210⟩ ?_ ?_
 .refine iT Hj (λq=>⟨[(0,tP 200),(1,tI a1),(17,.v (.c (.d true (.l (a2.db.map c9))))),(18,tI (a2.db.length:Int)),(19,tI q.1)],(nI q.2),210⟩) ?_ (by refine aq (wB 190 ((a0.av.set (a1).toNat a2.bk).length)) ?_;exact wo)
  rintro⟨v2,v13⟩ o H
  refine ad ?_
  refine cC H ?_ ?_<;>intro H
  .refine aa H λx27 hx27 H=>nA (xdT (enc:=c9) hx27) ?_
   refine aa H λr28 q28 H=>sA (cwu m0 [] 211 (P4 q28)) ?_
   exact aN H
  exact aE H
 cases H
 exact mn
def rR (a0:Int) (a1:Int):Option Int:=
 abU (uL a1) λr1=>abU (p8 a0 r1) λr2=>some r2
theorem yo (H:rR a0 a1=some r):Fn prog 136 [aI a0,aI a1] [.c (.d (.i .i64 r))]:=by
 refine fI func136 ntmps136 ?_
 refine aa H λr1 q1 H=>nA (ca (hF:=EN q1)) ?_
 refine aa H λr2 q2 H=>nA (ca (hF:=Au q2)) ?_
 exact ao H
def wx (a0:Int) (a1:bp):Option Bool:=
 abU (ny a0 a1.cM a1.fE a1.bg) λr1=>some (eqB a1.iM r1)
theorem Kk {a1:bp} {r:Bool} (H:wx a0 a1=some r):Fn prog 198 [aI a0,.agg (eh a1)] [.c (.d (.b r))]:=by
 refine fI func198 ntmps198 ?_
 refine dI ?_
 refine aa H λr1 q1 H=>dA (ca (hF:=If q1)) ?_
 refine wI ?_
 exact ao H
def rp (a0:Int) (a1:aA):Option Bool:=
 abU (mO a1.bz) λr1=>abU (bif r1 then(bif eqB a1.bz.cM 1 then(abU (rR a0 a1.aT) λr3=>abU (wx r3 a1.bz) λr4=>some r4) else(some false)) else(some false)) λ(v2:Bool)=>some v2
theorem yu {a1:aA} {r:Bool} (H:rp a0 a1=some r):Fn prog 117 [aI a0,.agg (dH a1)] [.c (.d (.b r))]:=by
 refine fI func117 ntmps117 ?_
 refine dI ?_
 refine aa H λr1 q1 H=>dA (ca (hF:=BZ q1)) ?_
 refine aa H λv2 Hj H=>fA ⟨[(4,tB v2)],[],0⟩ ?_ ?_
 .have H:=Hj
  refine wI ?_
  refine dC H ?_ ?_<;>intro H
  .refine dC H ?_ ?_<;>intro H
   .refine aa H λr3 q3 H=>dG (ca (hF:=yo q3)) ?_
    refine aa H λr4 q4 H=>dG (ca (hF:=Kk q4)) ?_
    refine wI ?_
    exact ai H
   refine wI ?_
   exact ai H
  refine wI ?_
  exact ai H
 refine wI ?_
 exact ao H
def wE (a0:Int) (a1:bp):Option (List Int):=
 abU (ph a0 (WR ((WR (2*a1.fE))+a1.cM))) λr1=>abU (BW r1 a1.bg) λr2=>some r2
theorem yD {a1:bp} {r:List Int} (H:wE a0 a1=some r):Fn prog 135 [aI a0,.agg (eh a1)] [.c (.own 5 1 (r.map eU8) r.length)]:=by
 refine fI func135 ntmps135 ?_
 refine dI ?_
 refine aa H λr1 q1 H=>dA (ca (hF:=BX q1)) ?_
 refine aa H λr2 q2 H=>dA (ca (hF:=Oi q2)) ?_
 refine wI ?_
 exact ao H
def kc (a0:Int) (a1:Int) (a2:Int):Option Int:=
 abU (Rs a2 1000000) λr1=>abU (mr a0 a1) λr2=>abU (Rs (WR (r1-r2)) 1000000) λr3=>some r3
theorem tF {a2:Int} (H:kc a0 a1 a2=some r):Fn prog 200 [aI a0,aI a1,aI a2] [.c (.d (.i .i64 r))]:=by
 refine fI func200 ntmps200 ?_
 refine aa H λr1 q1 H=>nA (ca (hF:=Oj q1)) ?_
 refine aa H λr2 q2 H=>nA (ca (hF:=xv q2)) ?_
 refine aa H λr3 q3 H=>nA (ca (hF:=Oj q3)) ?_
 exact ao H
def pQ (a0:Int) (a1:Int) (a2:cA):Option Int:=
 abU (kc a0 a2.er a2.fY) λr1=>abU (eY a0 [2,a2.er,r1]) λr2=>bif !eqB a2.iM r2 then(some 1) else(bif leB r1 a1 then(some 2) else(bif ltB (WR (a1+1000)) r1 then(some 3) else(some 0)))
theorem ER {a2:cA} (H:pQ a0 a1 a2=some r):Fn prog 119 [aI a0,aI a1,.agg (lK a2)] [.c (.d (.i .i64 r))]:=by
 refine fI func119 ntmps119 ?_
 refine aa H λr1 q1 H=>nA (ca (hF:=tF q1)) ?_
 refine dI ?_
 refine aa H λr2 q2 H=>dA (ca (hF:=fL q2)) ?_
 refine wI ?_
 exact ay H
def md (a0:kZ) (a1:cA):Option (kZ×ig):=
 abU (n9 a0) λr1=>bif !r1 then(some (a0,{eC with Code:=1})) else(abU (pQ a0.eP a0.dm a1) λr2=>abU (bif eqB r2 0 then(abU (kc a0.eP a1.er a1.fY) λr8=>abU (eY a0.eP [3,a1.er]) λr9=>abU (li a0.eP a1.er r8) λr10=>some (r8,(⟨r2,r9,r10.eP,0⟩:ig))) else(abU (bif eqB r2 2 then(some (eqB r2 2)) else(some (eqB r2 3))) λ(v11:Bool)=>abU (bif v11 then(abU (ro a0.eP a1.er a0.dm) λr13=>some r13) else(some 0)) λ(v12:Int)=>some (a0.dm,{eC with Code:=r2,Pr:=v12}))) λ((v6,v7):Int×ig)=>some ({a0 with dm:=v6},v7))
theorem xQ {a0:kZ} {a1:cA} {r:kZ×ig} (H:md a0 a1=some r):Fn prog 305 [.agg (Ge a0),.agg (lK a1)] [.agg (qM [] (uH r.1)),.agg (qM [] (fZ r.2))]:=by
 refine fI func305 ntmps305 ?_
 refine aa H λr1 q1 H=>nA (ca (hF:=yl q1)) ?_
 refine cC H ?_ ?_<;>intro H
 .exact ao H
 refine aa H λr2 q2 H=>nA (ca (hF:=ER q2)) ?_
 obtain⟨⟨v6,v7⟩,Hj,H⟩:=ob H
 refine jA ⟨[(2,tP 0),(4,tP 2),(5,tP 3),(7,tP 4)],[(0,.var 89 (kM [] (uH {a0 with dm:=v6}))),(2,.var 89 (kM [] (uH H3))),(3,.var 274 (kM [] (fZ eC))),(4,.var 274 (kM [] (fZ v7)))],5⟩ ?_ ?_
 .refine cC Hj ?_ ?_<;>intro H
  .refine aa H λr8 q8 H=>nA (ca (hF:=tF q8)) ?_
   refine aa H λr9 q9 H=>nA (ca (hF:=fL q9)) ?_
   refine aa H λr10 q10 H=>nA (ca (hF:=vl q10)) ?_
   exact ai H
  refine aa H λv11 Hj H=>jA ⟨[(2,tP 0),(3,tP 1),(4,tP 2),(5,tP 3),(7,tP 4),(49,tB v11)],[(0,.var 89 (kM [] (uH a0))),(1,.var 41 (kM [] (ei a1))),(2,.var 89 (kM [] (uH H3))),(3,.var 274 (kM [] (fZ eC))),(4,.var 274 (kM [] (fZ {eC with Code:=r2})))],5⟩ ?_ ?_
  .exact az Hj
  refine aa H λv12 Hj H=>jA ⟨[(2,tP 0),(4,tP 2),(5,tP 3),(7,tP 4)],[(0,.var 89 (kM [] (uH a0))),(2,.var 89 (kM [] (uH H3))),(3,.var 274 (kM [] (fZ eC))),(4,.var 274 (kM [] (fZ {eC with Code:=r2,Pr:=v12})))],5⟩ ?_ ?_
  .refine cC Hj ?_ ?_<;>intro H
   .refine aa H λr13 q13 H=>nA (ca (hF:=Gy q13)) ?_
    exact ai H
   exact ai H
  exact ai H
 refine zI (List.range 4) ?_
 refine wA (spx 100526) ?_
 refine wA (spx 100525) ?_
 exact ao H
def lN (a0:aJ) (a1:aD):Option a9:=
 abU (md a0.df a1.bW) λr1=>bif !eqB r1.2.Code 0 then(abU (cO a0 []) λr2=>some r2) else(abU (cO {a0 with df:=r1.1,ag:=a1.ag,aV:=r1.2.vU} [(⟨3,a0.be,a1.ag,0,r1.2.vT,cg,0⟩:aD)]) λr3=>some r3)
theorem A5 {a0:aJ} {a1:aD} {r:a9} (H:lN a0 a1=some r):Fn prog 232 [.agg (cS a0),.agg (c9 a1)] [.agg (qM [.o,.o,.o] (cf r))]:=by
 refine fI func232 ntmps232 ?_
 refine aa H λr1 q1 H=>nA (ca (hF:=xQ q1)) ?_
 refine cC H ?_ ?_<;>intro H
 .refine aa H λr2 q2 H=>nA (ca (hF:=ey q2)) ?_
  exact ao H
 refine aa H λr3 q3 H=>nA (ca (hF:=ey q3)) ?_
 exact ao H
end Go.AM
