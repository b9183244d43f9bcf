/- A part. -/
import Derived.Test.YtcfhabdgiieejaaGreatS6
set_option linter.unusedVariables false
open Option renaming bind->abJ
namespace Go.AM
open Go.Proofs
open Tryz
attribute [local irreducible] AWN NS AWO AWR AWC DR DZ dQ f9 iter
set_option maxRecDepth 100000
set_option maxHeartbeats 40000000
variable {a0 a1:Int}
def sv (a0:Int) (a1:Int):Option Int:=
 abJ (uX a1) λr1=>abJ (qF a0 r1) λr2=>some r2
instance Zc {r:Int}:FC prog (sv a0 a1=some r) 86 [aI a0,aI a1] [.c (.d (.i .i64 r))]:=gF func86 ntmps86
def o4 (a0:Int) (a1:av):Option Bool:=
 abJ (kA a1.bz) λr1=>abJ (bif r1 then(bif eqB a1.bz.cZ 1 then(abJ (sv a0 a1.aV) λr3=>abJ (tg r3 a1.bz) λr4=>some r4) else(some false)) else(some false)) λ(v2:Bool)=>some v2
instance VK {a1:av} {r:Bool}:FC prog (o4 a0 a1=some r) 34 [aI a0,.agg (cN a1)] [.c (.d (.b r))]:=gF func34 ntmps34 (hb 8 4)
def tf (a0:Int) (a1:aF):Option Int:=
 abJ (oY) λr1=>abJ (qF a0 r1) λr2=>abJ (eV r2 [23,a1.a8,a1.bh,a1.ag,a1.aV,a1.bV]) λr3=>some r3
instance Yj {a1:aF} {r:Int}:FC prog (tf a0 a1=some r) 166 [aI a0,.agg (cU a1)] [.c (.d (.i .i64 r))]:=gF func166 ntmps166
def im (a0:Int) (a1:aF):Option Bool:=
 abJ (tf a0 a1) λr1=>some (eqB a1.iK r1)
instance SC {a1:aF} {r:Bool}:FC prog (im a0 a1=some r) 87 [aI a0,.agg (cU a1)] [.c (.d (.b r))]:=gF func87 ntmps87
def pa (a0:ah) (a1:aF):Option Bool:=
 bif eqB a1.a8 3 then(abJ (bif leB a1.ag a0.bF.cW then(bif !eqB a1.ag a0.bI then(some true) else(some (!eqB a1.bV a0.aK.w8))) else(some false)) λ(v1:Bool)=>some v1) else(abJ (bif eqB a1.a8 5 then(some (eqB a1.a8 5)) else(some (eqB a1.a8 8))) λ(v2:Bool)=>bif v2 then(abJ (bif ltB a1.ag a0.ag then(some true) else(bif eqB a1.ag a0.ag then(abJ (im a0.aZ a1) λr4=>some (!r4)) else(some false))) λ(v3:Bool)=>some v3) else(some true))
instance R3 {a0:ah} {a1:aF} {r:Bool}:FC prog (pa a0 a1=some r) 35 [.agg (bS a0),.agg (cU a1)] [.c (.d (.b r))]:=gF func35 ntmps35 (hb 15 4) (hc 30 30) (hb 38 4)
def mP (a0:Int) (a1:Int) (a2:cy):Option Int:=
 abJ (kD a0 a2.ew a2.f4) λr1=>abJ (eV a0 [2,a2.ew,r1]) λr2=>bif !eqB a2.iK r2 then(some 1) else(bif leB r1 a1 then(some 2) else(bif ltB a1 (WR (r1-1000)) then(some 3) else(some 0)))
instance SD {a2:cy} {r:Int}:FC prog (mP a0 a1 a2=some r) 88 [aI a0,aI a1,.agg (lY a2)] [.c (.d (.i .i64 r))]:=gF func88 ntmps88
def mh (a0:aG) (a1:aF):Option Bool:=
 bif eqB a1.a8 2 then(abJ (mP a0.dr.eX a0.dr.di a1.cd) λr1=>abJ (bif eqB r1 1 then(some true) else(some (eqB r1 2))) λ(v2:Bool)=>some v2) else(abJ (bif eqB a1.a8 4 then(some (eqB a1.a8 4)) else(some (eqB a1.a8 6))) λ(v3:Bool)=>bif v3 then(abJ (bif ltB a1.ag a0.ag then(some true) else(bif eqB a1.ag a0.ag then(abJ (im a0.aZ a1) λr5=>some (!r5)) else(some false))) λ(v4:Bool)=>some v4) else(some true))
instance N8 {a0:aG} {a1:aF} {r:Bool}:FC prog (mh a0 a1=some r) 36 [.agg (cF a0),.agg (cU a1)] [.c (.d (.b r))]:=gF func36 ntmps36 (hb 21 4) (hc 25 25) (hb 33 4)
def tc (a0:Int) (a1:Int) (a2:Int) (a3:ae):Option av:=
 abJ (sv a0 a2) λr1=>abJ (FG r1 1 a3.cW a3.a9) λr2=>some (⟨a1,a2,r2⟩:av)
instance JR {a2:Int} {a3:ae} {r:av}:FC prog (tc a0 a1 a2 a3=some r) 253 [aI a0,aI a1,aI a2,.agg (aM a3)] [.agg (qM [.o] (jf r))]:=gF func253 ntmps253 (hz 1)
def zm (a0:bk):Option (cy×bk):=
 abJ (AD a0) λr1=>abJ (cH r1.2 50) λr2=>abJ (J1 r2.2) λr3=>abJ (iF r1.1 r2.1 r3.1) λr4=>abJ (cH r3.2 8) λr5=>abJ (bif eqB r5.1 0 then(abJ (zl r5.2) λr16=>some (r16.2,{r4 with iK:=r16.1})) else(abJ (bif eqB r5.1 1 then(abJ (Az r5.2 [WR (r4.f4+1),-1,1000000,WR (r4.f4+1000000)]) λr24=>some (r24.2,{r4 with f4:=r24.1})) else(abJ (bif eqB r5.1 2 then(some (WR (r4.ew+1))) else(some r4.ew)) λ(v25:Int)=>some (r5.2,{r4 with ew:=v25}))) λ((v22,v23):bk×cy)=>some (v22,v23))) λ((v14,v15):bk×cy)=>some (v15,v14)
theorem Mf {a0:bk} {r:cy×bk} (H:zm a0=some r):FnW prog 323 (.var 125 (kM [.f] (cj a0))) [tP 200] (.var 125 (kM [.f] (cj r.2))) [.agg (qM [] (eP r.1))]:=by
 refine fW func323 ntmps323 ?_
 refine aa H λr1 q1 H=>sA (cw (o:=200) (Me q1)) ?_
 refine aa H λr2 q2 H=>sA (cw (o:=200) (cm q2)) ?_
 refine aa H λr3 q3 H=>sA (cw (o:=200) (VX q3)) ?_
 refine aa H λr4 q4 H=>nA (ca (hF:=vA.h q4)) ?_
 refine aa H λr5 q5 H=>sA (cw (o:=200) (cm q5)) ?_
 obtain⟨⟨v14,v15⟩,Hj,H⟩:=ob H
 refine jA ⟨[(2,tP 210),(5,tP 211)],[(200,.var 125 (kM [.f] (cj v14))),(210,.var 40 (kM [] (eP cp))),(211,.var 40 (kM [] (eP v15)))],212⟩ ?_ ?_
 .refine cC Hj ?_ ?_<;>intro H
  .refine aa H λr16 q16 H=>sA (cw (o:=200) (CD q16)) ?_
   exact ai H
  obtain⟨⟨v22,v23⟩,Hj,H⟩:=ob H
  refine jA ⟨[(2,tP 210),(5,tP 211)],[(200,.var 125 (kM [.f] (cj v22))),(210,.var 40 (kM [] (eP cp))),(211,.var 40 (kM [] (eP v23)))],212⟩ ?_ ?_
  .refine cC Hj ?_ ?_<;>intro H
   .refine aa H λr24 q24 H=>bL (bv (o:=212)) ?_
    refine bL (bH (k:=31)) ?_
    refine sA (cw (o:=200) (BF q24)) ?_
    exact ai H
   refine aa H λv25 Hj H=>jA ⟨[(2,tP 210),(5,tP 211)],[(200,.var 125 (kM [.f] (cj r5.2))),(210,.var 40 (kM [] (eP cp))),(211,.var 40 (kM [] (eP {r4 with ew:=v25})))],212⟩ ?_ ?_
   .exact az Hj
   exact ai H
  exact ai H
 cases H
 exact f8
def jO (a0:Int) (a1:aF):Option aF:=
 abJ (tf a0 a1) λr1=>some {a1 with iK:=r1}
instance uY {a1:aF} {r:aF}:FC prog (jO a0 a1=some r) 324 [aI a0,.agg (cU a1)] [.agg (qM [] (d6 r))]:=gF func324 ntmps324
def DM (a0:bk) (a1:aG):Option (aF×bk):=
 abJ (cH a0 8) λr1=>abJ (bif eqB (WR (1+r1.1)) 2 then(abJ (lK a1.dr.ID (WR (a1.dr.di+1))) λr18=>abJ (iF a1.dr.eX r18 (WR (a1.dr.di+1))) λr19=>abJ (i8 r1.2 3) λr20=>abJ (bif r20.1 then(abJ (zm r20.2) λr31=>some (r31.2,(⟨WR (1+r1.1),a1.bh,WR (a1.dr.di+1),a1.aV,0,r31.1,0⟩:aF))) else(some (r20.2,(⟨WR (1+r1.1),a1.bh,WR (a1.dr.di+1),a1.aV,0,r19,0⟩:aF)))) λ((v29,v30):bk×aF)=>some (v29,v30)) else(abJ (bif eqB (WR (1+r1.1)) 4 then(abJ (cH r1.2 5) λr37=>some (r37.1,r37.2)) else(some (a1.aV,r1.2))) λ((v35,v36):Int×bk)=>some (v36,(⟨WR (1+r1.1),a1.bh,a1.ag,v35,0,cp,0⟩:aF)))) λ((v16,v17):bk×aF)=>abJ (jO a1.aZ v17) λr38=>abJ (cH v16 8) λr39=>abJ (bif eqB r39.1 0 then(abJ (zl r39.2) λr56=>some (r56.2,{r38 with iK:=r56.1})) else(abJ (bif eqB r39.1 1 then(abJ (cH r39.2 7) λr64=>some (r64.2,{r38 with bh:=WR (r64.1-1)})) else(abJ (bif eqB r39.1 2 then(some (WR (r38.ag+1))) else(some r38.ag)) λ(v65:Int)=>some (r39.2,{r38 with ag:=v65}))) λ((v62,v63):bk×aF)=>some (v62,v63))) λ((v54,v55):bk×aF)=>some (v55,v54)
theorem RU {a0:bk} {a1:aG} {r:aF×bk} (H:DM a0 a1=some r):FnW prog 254 (.var 125 (kM [.f] (cj a0))) [tP 200,.v (.agg (kM [.f,.f] (gD a1)))] (.var 125 (kM [.f] (cj r.2))) [.agg (qM [] (d6 r.1))]:=by
 refine fW func254 ntmps254 ?_
 refine zI (List.range 12) ?_
 refine aa H λr1 q1 H=>wA (cwx (o:=200) (cm q1)) ?_
 refine wA (spx 100484) ?_
 obtain⟨⟨v16,v17⟩,Hj,H⟩:=ob H
 refine jA ⟨[(0,tP 200),(3,tP 210),(4,tP 211),(6,tP 212)],[(200,.var 125 (kM [.f] (cj v16))),(210,.var 67 (kM [.f,.f] (gD a1))),(211,.var 42 (kM [] (d6 d9))),(212,.var 42 (kM [] (d6 v17)))],213⟩ ?_ ?_
 .refine cC Hj ?_ ?_<;>intro H
  .refine zI (List.range 12) ?_
   refine aa H λr18 q18 H=>zA (ca (hF:=Cv.h q18)) ?_
   refine aa H λr19 q19 H=>zA (ca (hF:=vA.h q19)) ?_
   refine wA (spx 100483) ?_
   refine aa H λr20 q20 H=>sA (cw (o:=200) (iN q20)) ?_
   obtain⟨⟨v29,v30⟩,Hj,H⟩:=ob H
   refine jA ⟨[(0,tP 200),(3,tP 210),(4,tP 211),(6,tP 212)],[(200,.var 125 (kM [.f] (cj v29))),(210,.var 67 (kM [.f,.f] (gD a1))),(211,.var 42 (kM [] (d6 d9))),(212,.var 42 (kM [] (d6 v30)))],213⟩ ?_ ?_
   .refine cC Hj ?_ ?_<;>intro H
    .refine aa H λr31 q31 H=>sA (cw (o:=200) (Mf q31)) ?_
     exact ai H
    exact ai H
   exact ai H
  obtain⟨⟨v35,v36⟩,Hj,H⟩:=ob H
  refine jA ⟨[(0,tP 200),(3,tP 210),(4,tP 211),(6,tP 212)],[(200,.var 125 (kM [.f] (cj v36))),(210,.var 67 (kM [.f,.f] (gD a1))),(211,.var 42 (kM [] (d6 d9))),(212,.var 42 (kM [] (d6 (⟨WR (1+r1.1),a1.bh,a1.ag,v35,0,cp,0⟩:aF))))],213⟩ ?_ ?_
  .refine cC Hj ?_ ?_<;>intro H
   .refine aa H λr37 q37 H=>sA (cw (o:=200) (cm q37)) ?_
    exact ai H
   exact ai H
  exact ai H
 refine aa H λr38 q38 H=>nA (ca (hF:=uY.h q38)) ?_
 refine aa H λr39 q39 H=>sA (cw (o:=200) (cm q39)) ?_
 obtain⟨⟨v54,v55⟩,Hj,H⟩:=ob H
 refine jA ⟨[(4,tP 211),(6,tP 212)],[(200,.var 125 (kM [.f] (cj v54))),(211,.var 42 (kM [] (d6 d9))),(212,.var 42 (kM [] (d6 v55)))],213⟩ ?_ ?_
 .refine cC Hj ?_ ?_<;>intro H
  .refine aa H λr56 q56 H=>sA (cw (o:=200) (CD q56)) ?_
   exact ai H
  obtain⟨⟨v62,v63⟩,Hj,H⟩:=ob H
  refine jA ⟨[(4,tP 211),(6,tP 212)],[(200,.var 125 (kM [.f] (cj v62))),(211,.var 42 (kM [] (d6 d9))),(212,.var 42 (kM [] (d6 v63)))],213⟩ ?_ ?_
  .refine cC Hj ?_ ?_<;>intro H
   .refine aa H λr64 q64 H=>sA (cw (o:=200) (cm q64)) ?_
    exact ai H
   refine aa H λv65 Hj H=>jA ⟨[(4,tP 211),(6,tP 212)],[(200,.var 125 (kM [.f] (cj r39.2))),(211,.var 42 (kM [] (d6 d9))),(212,.var 42 (kM [] (d6 {r38 with ag:=v65})))],213⟩ ?_ ?_
   .exact az Hj
   exact ai H
  exact ai H
 cases H
 exact f8
def qX (a0:aO) (a1:Int):Option (aO×cy):=
 abJ (eM a0) λr1=>abJ (bif !r1 then(some true) else(some (eqB a0.cW 999999))) λ(v2:Bool)=>bif v2 then(some (a0,cp)) else(abJ (iF a0.eX a1 (WR (a0.cW+1))) λr3=>some ({a0 with cW:=WR (a0.cW+1)},r3))
instance PX {a0:aO} {r:aO×cy}:FC prog (qX a0 a1=some r) 378 [.agg (dO a0),aI a1] [.agg (qM [] (sO r.1)),.agg (qM [] (eP r.2))]:=gF func378 ntmps378 (hb 10 14) (hz 5)
def oT (a0:ah) (a1:aF):Option bN:=
 abJ (lK a0.bF.ID (WR (a0.bF.cW+1))) λr1=>abJ (qX a0.bF r1) λr2=>bif(eqB r2.1.ID.eb a0.bF.ID.eb&&(eqB r2.1.ID.bV a0.bF.ID.bV&&(eqB r2.1.eX a0.bF.eX&&(eqB r2.1.cW a0.bF.cW&&true)))) then(abJ (o6 a0) λr3=>some r3) else(abJ (i9 a0) λr4=>some (⟨{r4 with bF:=r2.1,aK:=r2.2,bI:=r2.1.cW},[(⟨2,a1.bh,r2.1.cW,0,0,r2.2,0⟩:aF)]⟩:bN))
instance RD {a0:ah} {a1:aF} {r:bN}:FC prog (oT a0 a1=some r) 344 [.agg (bS a0),.agg (cU a1)] [.agg (qM [.o,.o,.o,.o] (ef r))]:=gF func344 ntmps344 (hz 1)
def Av (a0:Int) (a1:Int) (a2:Int) (a3:bi):Option (List Int×Int×Bool):=
 abJ (kA a3) λr1=>abJ (bif !r1 then(some true) else(bif !eqB a3.cZ a1 then(some true) else(abJ (tg a0 a3) λr3=>bif !r3 then(some true) else(some (leB a3.fQ a2))))) λ(v2:Bool)=>bif v2 then(some (([]:List Int),a2,false)) else(abJ (pG a0 (WR ((WR (2*a3.fQ))+a3.cZ))) λr4=>abJ (Bw r4 a3.a9) λr5=>some (r5,a3.fQ,true))
instance Yl {a2:Int} {a3:bi} {r:List Int×Int×Bool}:FC prog (Av a0 a1 a2 a3=some r) 394 [aI a0,aI a1,aI a2,.agg (ee a3)] [.c (.own 5 1 (r.1.map eU8) r.1.length),.c (.d (.i .i64 r.2.1)),.c (.d (.b r.2.2))]:=gF func394 ntmps394 (hb 14 31)
def my (a0:lp) (a1:cy):Option (lp×ie):=
 abJ (oP a0) λr1=>bif !r1 then(some (a0,{eL with Code:=1})) else(abJ (mP a0.eX a0.di a1) λr2=>bif eqB r2 0 then(abJ (kD a0.eX a1.ew a1.f4) λr3=>abJ (eV a0.eX [3,a1.ew]) λr4=>abJ (iF a0.eX a1.ew r3) λr5=>some ({a0 with di:=r3},{eL with w8:=r4,vO:=r5.eX})) else(abJ (bif eqB r2 2 then(some (eqB r2 2)) else(some (eqB r2 3))) λ(v6:Bool)=>bif v6 then(abJ (rT a0.eX a1.ew a0.di) λr7=>some (a0,{eL with Code:=r2,Ov:=r7})) else(some (a0,{eL with Code:=r2}))))
instance Kk {a0:lp} {a1:cy} {r:lp×ie}:FC prog (my a0 a1=some r) 396 [.agg (Et a0),.agg (lY a1)] [.agg (qM [] (xH r.1)),.agg (qM [] (gB r.2))]:=gF func396 ntmps396 (hz 9) (hc 48 48) (hz 12)
def qd (a0:ab) (r1:bK):(Int×List ah)->Option (cr (Int×List ah) (List ah))
 |(v5,v6)=>bif ltB v5 (v6.length:Int) then(abJ (mM a0.eC v5) λr14=>abJ (mM r1 v5) λr15=>abJ (bif !eqB r14 r15 then(abJ (ix v6 v5) λx17=>abJ (y7 x17) λr18=>abJ (ix v6 v5) λx19=>some (v6.set (v5).toNat r18)) else(some v6)) λ(v16:List ah)=>some (.next (WR (v5+1),v16))) else(some (.done v6))
def wT (a0:ab) (a1:Int) (a2:Bool):Option (Bool×ab):=
 abJ (rV a0.eC a1 a2) λr1=>abJ (du a1 0 (WR (a0.eC.fC-1))) λr2=>abJ (bif !r2 then(some true) else(abJ (qD a0.eC a1) λr4=>bif booB r4 a2 then(some true) else(some (eqB r1.fP 0)))) λ(v3:Bool)=>bif v3 then(some (false,a0)) else(abJ (iter (qd a0 r1) FU (0,a0.aA)) λ(v13:List ah)=>some (true,{a0 with aA:=v13,eC:=r1}))
instance J0 {a0:ab} {a2:Bool} {r:Bool×ab}:FCV prog (wT a0 a1 a2=some r) 161 (nS a0) [tP 200,tI a1,tB a2] (nS r.2) (.v (.c (.d false (.b r.1)))) []:=⟨λH=>by
 refine fV func161 ntmps161 ?_
 refine aa H λr1 q1 H=>nA (ca (hF:=FO.h q1)) ?_
 refine aa H λr2 q2 H=>nA (ca (hF:=rZ.h q2)) ?_
 refine aa H λv3 Hj H=>jR ⟨[(0,tP 200),(7,tP 210),(40,tB v3)],(nS a0++[(210,.var 32 (kM [] (eY r1)))]),211⟩ ?_ ?_
 .refine gC Hj ?_ ?_<;>intro H
  .exact ai H
  refine aa H λr4 q4 H=>nG (ca (hF:=GZ.h q4)) ?_
  exact az H
 refine cC H ?_ ?_<;>intro H
 .cases H
  exact bj
 refine aa H λv13 Hj H=>jB ⟨[],(nS {a0 with aA:=v13,eC:=r1}),212⟩ ?_ ?_
 .refine iT Hj (λq=>⟨[(0,tP 200),(7,tP 210),(8,tP 211),(9,tI q.1)],(nS {a0 with aA:=q.2,eC:=r1}++[(210,.var 32 (kM [] (eY r1))),(211,.var 32 (kM [] (eY a0.eC)))]),212⟩) ?_
  rintro⟨v5,v6⟩ o H
  refine ad ?_
  refine cC H ?_ ?_<;>intro H
  .refine dI ?_
   refine aa H λr14 q14 H=>dA (ca (hF:=xg.h q14)) ?_
   refine aa H λr15 q15 H=>dA (ca (hF:=xg.h q15)) ?_
   refine wI ?_
   refine aa H λv16 Hj H=>jA ⟨[(0,tP 200),(7,tP 210),(8,tP 211),(9,tI v5)],(nS {a0 with aA:=v16,eC:=r1}++[(210,.var 32 (kM [] (eY r1))),(211,.var 32 (kM [] (eY a0.eC)))]),212⟩ ?_ ?_
   .refine cC Hj ?_ ?_<;>intro H
    .refine zI (List.range 15) ?_
     refine aa H λx17 hx17 H=>zA (qL hx17) ?_
     refine zA (Jw (he:=dF _ hx17)) ?_
     refine aa H λr18 q18 H=>zA (ca (hF:=LW.h q18)) ?_
     refine aa H λx19 hx19 H=>zA (qL hx19) ?_
     refine zB (am (bv (o:=212)) (am (bv (o:=213)) (am (bv (o:=214)) (am (bH (k:=77)) (lU 191 (hne:=ya (enc:=bS) hx19)))))) (fg rfl (soT (enc:=bS) (a':=r18) hx19)) bC ?_
     cases H
     refine am (d8 191) ?_
     refine am (wB 191 ((v6.set (v5).toNat r18).length)) ?_
     exact wo
    exact ai H
   exact aN H
  exact aE H
 cases H
 exact bj⟩
end Go.AM
