/- A part. -/
import Derived.Test.YtmginjngmidkbaaGreatS6
set_option linter.unusedVariables false
open Option renaming bind->abU
namespace Go.AM
open Go.Proofs
open Tryz
attribute [local irreducible] AWN NS AWO AWR AWC DR DZ dS gp iter
set_option maxRecDepth 100000
set_option maxHeartbeats 40000000
variable {a0 a1:Int}
def sj (a0:Int) (a1:Int):Option Int:=
 abU (uU a1) λr1=>abU (qG a0 r1) λr2=>some r2
instance Mj {r:Int}:FC prog (sj a0 a1=some r) 126 [aI a0,aI a1] [.c (.d (.i .i64 r))]:=gF func126 ntmps126
def ph (a0:Int) (a1:ax):Option Bool:=
 abU (kO a1.bC) λr1=>abU (bif r1 then(bif eqB a1.bC.cY 1 then(abU (sj a0 a1.aX) λr3=>abU (tc r3 a1.bC) λr4=>some r4) else(some false)) else(some false)) λ(v2:Bool)=>some v2
instance F9 {a1:ax} {r:Bool}:FC prog (ph a0 a1=some r) 66 [aI a0,.agg (db a1)] [.c (.d (.b r))]:=gF func66 ntmps66 (hb 8 4)
def s9 (a0:Int) (a1:aH):Option Int:=
 abU (pb) λr1=>abU (qG a0 r1) λr2=>abU (fk r2 [23,a1.bh,a1.bg,a1.ag,a1.aX,a1.bW]) λr3=>some r3
instance Ye {a1:aH} {r:Int}:FC prog (s9 a0 a1=some r) 211 [aI a0,.agg (cZ a1)] [.c (.d (.i .i64 r))]:=gF func211 ntmps211
def iC (a0:Int) (a1:aH):Option Bool:=
 abU (s9 a0 a1) λr1=>some (eqB a1.jE r1)
instance xm {a1:aH} {r:Bool}:FC prog (iC a0 a1=some r) 127 [aI a0,.agg (cZ a1)] [.c (.d (.b r))]:=gF func127 ntmps127
def pw (a0:ah) (a1:aH):Option Bool:=
 bif eqB a1.bh 3 then(abU (bif leB a1.ag a0.bE.c8 then(bif !eqB a1.ag a0.bL then(some true) else(some (!eqB a1.bW a0.aK.yI))) else(some false)) λ(v1:Bool)=>some v1) else(abU (bif eqB a1.bh 5 then(some (eqB a1.bh 5)) else(some (eqB a1.bh 8))) λ(v2:Bool)=>bif v2 then(abU (bif ltB a1.ag a0.ag then(some true) else(bif eqB a1.ag a0.ag then(abU (iC a0.aZ a1) λr4=>some (!r4)) else(some false))) λ(v3:Bool)=>some v3) else(some true))
instance Sg {a0:ah} {a1:aH} {r:Bool}:FC prog (pw a0 a1=some r) 67 [.agg (bZ a0),.agg (cZ a1)] [.c (.d (.b r))]:=gF func67 ntmps67 (hb 15 4) (hc 30 30) (hb 38 4)
def nf (a0:Int) (a1:Int) (a2:cE):Option Int:=
 abU (kR a0 a2.eC a2.gm) λr1=>abU (fk a0 [2,a2.eC,r1]) λr2=>bif !eqB a2.jE r2 then(some 1) else(bif leB r1 a1 then(some 2) else(bif ltB a1 (WR (r1-1000)) then(some 3) else(some 0)))
instance SQ {a2:cE} {r:Int}:FC prog (nf a0 a1 a2=some r) 128 [aI a0,aI a1,.agg (me a2)] [.c (.d (.i .i64 r))]:=gF func128 ntmps128
def mA (a0:aJ) (a1:aH):Option Bool:=
 bif eqB a1.bh 2 then(abU (nf a0.dq.fo a0.dq.dv a1.cm) λr1=>abU (bif eqB r1 1 then(some true) else(some (eqB r1 2))) λ(v2:Bool)=>some v2) else(abU (bif eqB a1.bh 4 then(some (eqB a1.bh 4)) else(some (eqB a1.bh 6))) λ(v3:Bool)=>bif v3 then(abU (bif ltB a1.ag a0.ag then(some true) else(bif eqB a1.ag a0.ag then(abU (iC a0.aZ a1) λr5=>some (!r5)) else(some false))) λ(v4:Bool)=>some v4) else(some true))
instance On {a0:aJ} {a1:aH} {r:Bool}:FC prog (mA a0 a1=some r) 68 [.agg (c9 a0),.agg (cZ a1)] [.c (.d (.b r))]:=gF func68 ntmps68 (hb 21 4) (hc 25 25) (hb 33 4)
def s8 (a0:Int) (a1:Int) (a2:Int) (a3:ae):Option ax:=
 abU (sj a0 a2) λr1=>abU (FY r1 1 a3.c8 a3.bb) λr2=>some (⟨a1,a2,r2⟩:ax)
instance Kb {a2:Int} {a3:ae} {r:ax}:FC prog (s8 a0 a1 a2 a3=some r) 260 [aI a0,aI a1,aI a2,.agg (aM a3)] [.agg (qM [.o] (iy r))]:=gF func260 ntmps260 (hz 1)
def zk (a0:bj):Option (cE×bj):=
 abU (Az a0) λr1=>abU (cO r1.2 50) λr2=>abU (Kn r2.2) λr3=>abU (iS r1.1 r2.1 r3.1) λr4=>abU (cO r3.2 8) λr5=>abU (bif eqB r5.1 0 then(abU (zj r5.2) λr16=>some (r16.2,{r4 with jE:=r16.1})) else(abU (bif eqB r5.1 1 then(abU (Av r5.2 [WR (r4.gm+1),-1,1000000,WR (r4.gm+1000000)]) λr24=>some (r24.2,{r4 with gm:=r24.1})) else(abU (bif eqB r5.1 2 then(some (WR (r4.eC+1))) else(some r4.eC)) λ(v25:Int)=>some (r5.2,{r4 with eC:=v25}))) λ((v22,v23):bj×cE)=>some (v22,v23))) λ((v14,v15):bj×cE)=>some (v15,v14)
theorem MA {a0:bj} {r:cE×bj} (H:zk a0=some r):FnW prog 316 (.var 135 (kM [.f] (co a0))) [tP 200] (.var 135 (kM [.f] (co r.2))) [.agg (qM [] (eT r.1))]:=by
 refine fW func316 ntmps316 ?_
 refine aa H λr1 q1 H=>sA (cw (o:=200) (Mz q1)) ?_
 refine aa H λr2 q2 H=>sA (cw (o:=200) (cp q2)) ?_
 refine aa H λr3 q3 H=>sA (cw (o:=200) (VT q3)) ?_
 refine aa H λr4 q4 H=>nA (ca (hF:=vC.h q4)) ?_
 refine aa H λr5 q5 H=>sA (cw (o:=200) (cp q5)) ?_
 obtain⟨⟨v14,v15⟩,Hj,H⟩:=ob H
 refine jA ⟨[(2,tP 210),(5,tP 211)],[(200,.var 135 (kM [.f] (co v14))),(210,.var 41 (kM [] (eT cr))),(211,.var 41 (kM [] (eT v15)))],212⟩ ?_ ?_
 .refine cC Hj ?_ ?_<;>intro H
  .refine aa H λr16 q16 H=>sA (cw (o:=200) (CH q16)) ?_
   exact ai H
  obtain⟨⟨v22,v23⟩,Hj,H⟩:=ob H
  refine jA ⟨[(2,tP 210),(5,tP 211)],[(200,.var 135 (kM [.f] (co v22))),(210,.var 41 (kM [] (eT cr))),(211,.var 41 (kM [] (eT v23)))],212⟩ ?_ ?_
  .refine cC Hj ?_ ?_<;>intro H
   .refine aa H λr24 q24 H=>bG (aV (o:=212)) ?_
    refine bG (bN (k:=31)) ?_
    refine sA (cw (o:=200) (BK q24)) ?_
    exact ai H
   refine aa H λv25 Hj H=>jA ⟨[(2,tP 210),(5,tP 211)],[(200,.var 135 (kM [.f] (co r5.2))),(210,.var 41 (kM [] (eT cr))),(211,.var 41 (kM [] (eT {r4 with eC:=v25})))],212⟩ ?_ ?_
   .exact az Hj
   exact ai H
  exact ai H
 cases H
 exact f9
def ke (a0:Int) (a1:aH):Option aH:=
 abU (s9 a0 a1) λr1=>some {a1 with jE:=r1}
instance qh {a1:aH} {r:aH}:FC prog (ke a0 a1=some r) 317 [aI a0,.agg (cZ a1)] [.agg (qM [] (dt r))]:=gF func317 ntmps317
def D1 (a0:bj) (a1:aJ):Option (aH×bj):=
 abU (cO a0 8) λr1=>abU (bif eqB (WR (1+r1.1)) 2 then(abU (lU a1.dq.ID (WR (a1.dq.dv+1))) λr18=>abU (iS a1.dq.fo r18 (WR (a1.dq.dv+1))) λr19=>abU (jn r1.2 3) λr20=>abU (bif r20.1 then(abU (zk r20.2) λr31=>some (r31.2,(⟨WR (1+r1.1),a1.bg,WR (a1.dq.dv+1),a1.aX,0,r31.1,0⟩:aH))) else(some (r20.2,(⟨WR (1+r1.1),a1.bg,WR (a1.dq.dv+1),a1.aX,0,r19,0⟩:aH)))) λ((v29,v30):bj×aH)=>some (v29,v30)) else(abU (bif eqB (WR (1+r1.1)) 4 then(abU (cO r1.2 5) λr37=>some (r37.1,r37.2)) else(some (a1.aX,r1.2))) λ((v35,v36):Int×bj)=>some (v36,(⟨WR (1+r1.1),a1.bg,a1.ag,v35,0,cr,0⟩:aH)))) λ((v16,v17):bj×aH)=>abU (ke a1.aZ v17) λr38=>abU (cO v16 8) λr39=>abU (bif eqB r39.1 0 then(abU (zj r39.2) λr56=>some (r56.2,{r38 with jE:=r56.1})) else(abU (bif eqB r39.1 1 then(abU (cO r39.2 7) λr64=>some (r64.2,{r38 with bg:=WR (r64.1-1)})) else(abU (bif eqB r39.1 2 then(some (WR (r38.ag+1))) else(some r38.ag)) λ(v65:Int)=>some (r39.2,{r38 with ag:=v65}))) λ((v62,v63):bj×aH)=>some (v62,v63))) λ((v54,v55):bj×aH)=>some (v55,v54)
theorem Sd {a0:bj} {a1:aJ} {r:aH×bj} (H:D1 a0 a1=some r):FnW prog 261 (.var 135 (kM [.f] (co a0))) [tP 200,.v (.agg (kM [.f,.f] (dF a1)))] (.var 135 (kM [.f] (co r.2))) [.agg (qM [] (dt r.1))]:=by
 refine fW func261 ntmps261 ?_
 refine zI (List.range 12) ?_
 refine aa H λr1 q1 H=>wA (cwx (o:=200) (cp q1)) ?_
 refine wA (spx 100314) ?_
 obtain⟨⟨v16,v17⟩,Hj,H⟩:=ob H
 refine jA ⟨[(0,tP 200),(3,tP 210),(4,tP 211),(6,tP 212)],[(200,.var 135 (kM [.f] (co v16))),(210,.var 93 (kM [.f,.f] (dF a1))),(211,.var 43 (kM [] (dt dQ))),(212,.var 43 (kM [] (dt v17)))],213⟩ ?_ ?_
 .refine cC Hj ?_ ?_<;>intro H
  .refine zI (List.range 12) ?_
   refine aa H λr18 q18 H=>zA (ca (hF:=Cy.h q18)) ?_
   refine aa H λr19 q19 H=>zA (ca (hF:=vC.h q19)) ?_
   refine wA (spx 100313) ?_
   refine aa H λr20 q20 H=>sA (cw (o:=200) (i8 q20)) ?_
   obtain⟨⟨v29,v30⟩,Hj,H⟩:=ob H
   refine jA ⟨[(0,tP 200),(3,tP 210),(4,tP 211),(6,tP 212)],[(200,.var 135 (kM [.f] (co v29))),(210,.var 93 (kM [.f,.f] (dF a1))),(211,.var 43 (kM [] (dt dQ))),(212,.var 43 (kM [] (dt v30)))],213⟩ ?_ ?_
   .refine cC Hj ?_ ?_<;>intro H
    .refine aa H λr31 q31 H=>sA (cw (o:=200) (MA q31)) ?_
     exact ai H
    exact ai H
   exact ai H
  obtain⟨⟨v35,v36⟩,Hj,H⟩:=ob H
  refine jA ⟨[(0,tP 200),(3,tP 210),(4,tP 211),(6,tP 212)],[(200,.var 135 (kM [.f] (co v36))),(210,.var 93 (kM [.f,.f] (dF a1))),(211,.var 43 (kM [] (dt dQ))),(212,.var 43 (kM [] (dt (⟨WR (1+r1.1),a1.bg,a1.ag,v35,0,cr,0⟩:aH))))],213⟩ ?_ ?_
  .refine cC Hj ?_ ?_<;>intro H
   .refine aa H λr37 q37 H=>sA (cw (o:=200) (cp q37)) ?_
    exact ai H
   exact ai H
  exact ai H
 refine aa H λr38 q38 H=>nA (ca (hF:=qh.h q38)) ?_
 refine aa H λr39 q39 H=>sA (cw (o:=200) (cp q39)) ?_
 obtain⟨⟨v54,v55⟩,Hj,H⟩:=ob H
 refine jA ⟨[(4,tP 211),(6,tP 212)],[(200,.var 135 (kM [.f] (co v54))),(211,.var 43 (kM [] (dt dQ))),(212,.var 43 (kM [] (dt v55)))],213⟩ ?_ ?_
 .refine cC Hj ?_ ?_<;>intro H
  .refine aa H λr56 q56 H=>sA (cw (o:=200) (CH q56)) ?_
   exact ai H
  obtain⟨⟨v62,v63⟩,Hj,H⟩:=ob H
  refine jA ⟨[(4,tP 211),(6,tP 212)],[(200,.var 135 (kM [.f] (co v62))),(211,.var 43 (kM [] (dt dQ))),(212,.var 43 (kM [] (dt v63)))],213⟩ ?_ ?_
  .refine cC Hj ?_ ?_<;>intro H
   .refine aa H λr64 q64 H=>sA (cw (o:=200) (cp q64)) ?_
    exact ai H
   refine aa H λv65 Hj H=>jA ⟨[(4,tP 211),(6,tP 212)],[(200,.var 135 (kM [.f] (co r39.2))),(211,.var 43 (kM [] (dt dQ))),(212,.var 43 (kM [] (dt {r38 with ag:=v65})))],213⟩ ?_ ?_
   .exact az Hj
   exact ai H
  exact ai H
 cases H
 exact f9
def qY (a0:aO) (a1:Int):Option (aO×cE):=
 abU (eR a0) λr1=>abU (bif !r1 then(some true) else(some (eqB a0.c8 999999))) λ(v2:Bool)=>bif v2 then(some (a0,cr)) else(abU (iS a0.fo a1 (WR (a0.c8+1))) λr3=>some ({a0 with c8:=WR (a0.c8+1)},r3))
instance Qe {a0:aO} {r:aO×cE}:FC prog (qY a0 a1=some r) 367 [.agg (dO a0),aI a1] [.agg (qM [] (sL r.1)),.agg (qM [] (eT r.2))]:=gF func367 ntmps367 (hb 10 14) (hz 5)
def o6 (a0:ah) (a1:aH):Option bI:=
 abU (lU a0.bE.ID (WR (a0.bE.c8+1))) λr1=>abU (qY a0.bE r1) λr2=>bif(eqB r2.1.ID.dZ a0.bE.ID.dZ&&(eqB r2.1.ID.bW a0.bE.ID.bW&&(eqB r2.1.fo a0.bE.fo&&(eqB r2.1.c8 a0.bE.c8&&true)))) then(abU (pk a0) λr3=>some r3) else(abU (jo a0) λr4=>some (⟨{r4 with bE:=r2.1,aK:=r2.2,bL:=r2.1.c8},[(⟨2,a1.bg,r2.1.c8,0,0,r2.2,0⟩:aH)]⟩:bI))
instance Cz {a0:ah} {a1:aH} {r:bI}:FC prog (o6 a0 a1=some r) 353 [.agg (bZ a0),.agg (cZ a1)] [.agg (qM [.o,.o,.o,.o] (eh r))]:=gF func353 ntmps353 (hz 1)
def Ar (a0:Int) (a1:Int) (a2:Int) (a3:bv):Option (List Int×Int×Bool):=
 abU (kO a3) λr1=>abU (bif !r1 then(some true) else(bif !eqB a3.cY a1 then(some true) else(abU (tc a0 a3) λr3=>bif !r3 then(some true) else(some (leB a3.fU a2))))) λ(v2:Bool)=>bif v2 then(some (([]:List Int),a2,false)) else(abU (pT a0 (WR ((WR (2*a3.fU))+a3.cY))) λr4=>abU (BB r4 a3.bb) λr5=>some (r5,a3.fU,true))
instance Kc {a2:Int} {a3:bv} {r:List Int×Int×Bool}:FC prog (Ar a0 a1 a2 a3=some r) 373 [aI a0,aI a1,aI a2,.agg (eQ a3)] [.c (.own 5 1 (r.1.map eU8) r.1.length),.c (.d (.i .i64 r.2.1)),.c (.d (.b r.2.2))]:=gF func373 ntmps373 (hb 14 31)
def mK (a0:lC) (a1:cE):Option (lC×iv):=
 abU (oZ a0) λr1=>bif !r1 then(some (a0,{eP with Code:=1})) else(abU (nf a0.fo a0.dv a1) λr2=>bif eqB r2 0 then(abU (kR a0.fo a1.eC a1.gm) λr3=>abU (fk a0.fo [3,a1.eC]) λr4=>abU (iS a0.fo a1.eC r3) λr5=>some ({a0 with dv:=r3},{eP with yI:=r4,vQ:=r5.fo})) else(abU (bif eqB r2 2 then(some (eqB r2 2)) else(some (eqB r2 3))) λ(v6:Bool)=>bif v6 then(abU (rR a0.fo a1.eC a0.dv) λr7=>some (a0,{eP with Code:=r2,OK:=r7})) else(some (a0,{eP with Code:=r2}))))
instance KF {a0:lC} {a1:cE} {r:lC×iv}:FC prog (mK a0 a1=some r) 375 [.agg (EE a0),.agg (me a1)] [.agg (qM [] (xH r.1)),.agg (qM [] (gN r.2))]:=gF func375 ntmps375 (hz 9) (hc 48 48) (hz 12)
def qk (a0:ab) (r1:bH):(Int×List ah)->Option (ct (Int×List ah) (List ah))
 |(v5,v6)=>bif ltB v5 (v6.length:Int) then(abU (mZ a0.ev v5) λr14=>abU (mZ r1 v5) λr15=>abU (bif !eqB r14 r15 then(abU (ix v6 v5) λx17=>abU (y4 x17) λr18=>abU (ix v6 v5) λx19=>some (v6.set (v5).toNat r18)) else(some v6)) λ(v16:List ah)=>some (.next (WR (v5+1),v16))) else(some (.done v6))
def wW (a0:ab) (a1:Int) (a2:Bool):Option (Bool×ab):=
 abU (rS a0.ev a1 a2) λr1=>abU (du a1 0 (WR (a0.ev.fx-1))) λr2=>abU (bif !r2 then(some true) else(abU (qE a0.ev a1) λr4=>bif booB r4 a2 then(some true) else(some (eqB r1.fB 0)))) λ(v3:Bool)=>bif v3 then(some (false,a0)) else(abU (iter (qk a0 r1) FU (0,a0.aF)) λ(v13:List ah)=>some (true,{a0 with aF:=v13,ev:=r1}))
theorem Km {a0:ab} {a2:Bool} {r:Bool×ab} (H:wW a0 a1 a2=some r):FnV prog 195 (nS a0) [tP 200,tI a1,tB a2] (nS r.2) (.v (.c (.d false (.b r.1)))) []:=by
 refine fV func195 ntmps195 ?_
 refine aa H λr1 q1 H=>nA (ca (hF:=F6.h q1)) ?_
 refine aa H λr2 q2 H=>nA (ca (hF:=nC.h q2)) ?_
 refine aa H λv3 Hj H=>jR ⟨[(0,tP 200),(7,tP 210),(40,tB v3)],(nS a0++[(210,.var 32 (kM [] (eJ r1)))]),211⟩ ?_ ?_
 .refine gC Hj ?_ ?_<;>intro H
  .exact ai H
  refine aa H λr4 q4 H=>nG (ca (hF:=G9.h q4)) ?_
  exact az H
 refine cC H ?_ ?_<;>intro H
 .cases H
  exact cg
 refine aa H λv13 Hj H=>jB ⟨[],(nS {a0 with aF:=v13,ev:=r1}),210⟩ ?_ ?_
 .refine iT Hj (λq=>⟨[(0,tP 200),(7,tP 210),(8,tP 211),(9,tI q.1)],(nS {a0 with aF:=q.2,ev:=r1}++[(210,.var 32 (kM [] (eJ r1))),(211,.var 32 (kM [] (eJ a0.ev)))]),212⟩) ?_
  rintro⟨v5,v6⟩ o H
  refine ad ?_
  refine cC H ?_ ?_<;>intro H
  .refine dI ?_
   refine aa H λr14 q14 H=>dA (ca (hF:=xj.h q14)) ?_
   refine aa H λr15 q15 H=>dA (ca (hF:=xj.h q15)) ?_
   refine wI ?_
   refine aa H λv16 Hj H=>jA ⟨[(0,tP 200),(7,tP 210),(8,tP 211),(9,tI v5)],(nS {a0 with aF:=v16,ev:=r1}++[(210,.var 32 (kM [] (eJ r1))),(211,.var 32 (kM [] (eJ a0.ev)))]),212⟩ ?_ ?_
   .refine cC Hj ?_ ?_<;>intro H
    .refine zI (List.range 15) ?_
     refine aa H λx17 hx17 H=>zA (qN hx17) ?_
     refine zA (JR (he:=ez _ hx17)) ?_
     refine aa H λr18 q18 H=>zA (ca (hF:=Mi.h q18)) ?_
     refine aa H λx19 hx19 H=>zA (qN hx19) ?_
     refine zB (an (aV (o:=212)) (an (aV (o:=213)) (an (aV (o:=214)) (an (bN (k:=77)) (mc 191 (hne:=xW (enc:=bZ) hx19)))))) (fQ rfl (soT (enc:=bZ) (a':=r18) hx19)) bK ?_
     cases H
     refine an (ec 191) ?_
     refine an (wB 191 ((v6.set (v5).toNat r18).length)) ?_
     exact wo
    exact ai H
   exact aN H
  exact aE H
 cases H
 exact cg
end Go.AM
