/- A part. -/
import Derived.Test.YtcfhabdgiieejaaGreatI5
set_option linter.unusedVariables false
open Option renaming bind->abJ
namespace Go.AM
open Go.Proofs
open Tryz
attribute [local irreducible] AWN NS AWO AWR AWC DR DZ dQ f9 iter
set_option maxRecDepth 100000
set_option maxHeartbeats 40000000
variable {a0:Int} {a1:Go.AM.aF}
def sS (a0:Int) (a1:aF):Option Int:=
 abJ (oo) λr1=>abJ (qq a0 r1) λr2=>abJ (eT r2 [23,a1.a8,a1.bh,a1.ag,a1.aV,a1.bV]) λr3=>some r3
instance Xy {r:Int}:FC prog (sS a0 a1=some r) 195 [aI a0,.agg (cU a1)] [.c (.d (.i .i64 r))]:=gF func195 ntmps195
def nB (a0:Int) (a1:aF):Option aF:=
 abJ (sS a0 a1) λr1=>some {a1 with iK:=r1}
instance GC {r:aF}:FC prog (nB a0 a1=some r) 299 [aI a0,.agg (cU a1)] [.agg (qM [] (d6 r))]:=gF func299 ntmps299
def qx (a0:aG):Option aF:=
 abJ (nB a0.aZ (⟨5,a0.bh,a0.ag,a0.aV,0,cp,0⟩:aF)) λr1=>some r1
instance WG {a0:aG} {r:aF}:FC prog (qx a0=some r) 218 [.agg (cF a0)] [.agg (qM [] (d6 r))]:=gF func218 ntmps218
def sh (a0:Int) (a1:Int):Option Int:=
 abJ (uS a1) λr1=>abJ (qq a0 r1) λr2=>some r2
instance CR {a1:Int} {r:Int}:FC prog (sh a0 a1=some r) 109 [aI a0,aI a1] [.c (.d (.i .i64 r))]:=gF func109 ntmps109
def sR (a0:Int) (a1:Int) (a2:Int) (a3:ae):Option av:=
 abJ (sh a0 a2) λr1=>abJ (EL r1 1 a3.cW a3.a9) λr2=>some (⟨a1,a2,r2⟩:av)
instance A9 {a1:Int} {a2:Int} {a3:ae} {r:av}:FC prog (sR a0 a1 a2 a3=some r) 303 [aI a0,aI a1,aI a2,.agg (aM a3)] [.agg (qM [.o] (jf r))]:=gF func303 ntmps303 (hz 1)
def ly (a0:ah) (r1:Int):(Int×List av)->Option (cr (Int×List av) (List av))
 |(v2,v3)=>bif ltB v2 (((a0.ax.aC.take (r1).toNat).length:Nat):Int) then(abJ (ix (a0.ax.aC.take (r1).toNat) v2) λx7=>abJ (sR a0.aZ a0.ag a0.aV x7) λr8=>bif da 64 (v3++[r8]).length then(some (.next (WR (v2+1),(v3++[r8])))) else none) else(some (.done v3))
def qr (a0:ah):Option (List av):=
 bif !eqB a0.bp 1 then(some ([]:List av)) else(abJ (Nf 2 (a0.ax.aC.length:Int)) λr1=>bif eF a0.ax.aC 0 r1 then(abJ (iter (ly a0 r1) FU (0,([]:List av))) λ(v6:List av)=>some v6) else none)
instance GB {a0:ah} {r:List av}:FC prog (qr a0=some r) 221 [.agg (bS a0)] [.c (.own 46 6 (r.map cN) r.length)]:=⟨λH=>by
 refine fI func221 ntmps221 ?_
 refine cC H ?_ ?_<;>intro H
 .exact ao H
 refine dI ?_
 refine aa H λr1 q1 H=>dA (ca (hF:=Ng.h q1)) ?_
 obtain⟨h,H⟩:=rq H
 refine dA (ZB (enc:=aM) h (λ_=>rfl) rfl rfl rfl) ?_
 refine wI ?_
 refine aa H λv6 Hj H=>jB ⟨[(3,.v (.c (.w 1 v6.length)))],[(1,w46 v6)],2⟩ ?_ ?_
 .refine iT Hj (λq=>⟨[(1,tP 0),(3,.v (.c (.w 1 q.2.length))),(19,.v (.c (.d false (.l ((a0.ax.aC.take (r1).toNat).map aM))))),(20,tI (((a0.ax.aC.take (r1).toNat).length:Nat):Int)),(21,tI q.1)],[(0,.var 93 (kM [.f,.f,.f] (c7 a0))),(1,w46 q.2)],2⟩) ?_
  rintro⟨v2,v3⟩ o H
  refine ad ?_
  refine cC H ?_ ?_<;>intro H
  .refine aa H λx7 hx7 H=>nA (xdT (enc:=aM) hx7) ?_
   refine aa H λr8 q8 H=>nA (ca (hF:=A9.h q8)) ?_
   refine bL (bv (o:=3)) ?_
   refine aW (bH (k:=33)) ?_
   obtain⟨h,H⟩:=rq H
   refine sA (apT (enc:=cN) (ys:=v3) (zs:=[r8]) h) ?_
   exact aN H
  exact aE H
 cases H
 exact dM⟩
def tW:(Int×List av×ah×aj)->Option (cr (Int×List av×ah×aj) (List av×ah×aj))
 |(v5,v36,v41,v42)=>bif ltB v5 2 then(abJ (bif ltB (v41.aH.length:Int) v41.ax.bE then(some true) else(some (leB 8 (v41.ax.aC.length:Int)))) λ(v86:Bool)=>bif v86 then(some (.done (v36,v41,v42))) else(abJ (ix v41.aH (WR (v41.ax.bE-1))) λx87=>abJ (rA v41 v42 (x87.a9.length:Int)) λr88=>abJ (n9 r88.1 (x87.a9.length:Int)) λr89=>bif ltB 0 r89 then(some (.done (v36,r88.1,r88.2))) else(abJ (qs r88.1.ax x87.a9) λr90=>bif r90.2.2 then(abJ (sR r88.1.aZ r88.1.ag r88.1.aV r90.2.1) λr91=>bif da 64 (v36++[r91]).length then(some (.next (WR (v5+1),(v36++[r91]),{r88.1 with ax:=r90.1},r88.2))) else none) else(some (.done (v36,r88.1,r88.2)))))) else(some (.done (v36,v41,v42)))
def Ba (a0:ah) (a1:aj):Option bO:=
 abJ (gz a0) λr1=>abJ (eZ a1) λr2=>abJ (iL a0) λr3=>abJ (bif !r3 then(some true) else(some (!eqB a0.bp 1))) λ(v4:Bool)=>bif v4 then(some {ci with aU:=r1,eu:=r2}) else(abJ (iter (tW) FU (0,([]:List av),r1,r2)) λ((v79,v84,v85):List av×ah×aj)=>some (⟨v84,v85,[],v79⟩:bO))
instance Nk {a0:ah} {a1:aj} {r:bO}:FCV prog (Ba a0 a1=some r) 222 [] [.v (.agg (kM [.f,.f,.f] (c7 a0))),.v (.agg (kM [.f] (ct a1)))] [] (.v (.agg (kM [.w 210,.w 211,.w 212,.w 213,.z,.n 214] (bB {r with ju:=[]})))) [(210,w3 r.aU.gT.bU),(211,Sd r.aU.aH),(212,J9 r.aU.ax.aC),(213,w166 r.eu.an),(214,n46 r.co)]:=⟨λH=>by
 refine fV func222 ntmps222 ?_
 refine zI (List.range 7) ?_
 refine aa H λr1 q1 H=>zA (ca (hF:=oA.h q1)) ?_
 refine aa H λr2 q2 H=>zA (ca (hF:=lA.h q2)) ?_
 refine wA (spx 100082) ?_
 refine aa H λr3 q3 H=>nA (ca (hF:=tT.h q3)) ?_
 refine aa H λv4 Hj H=>jR ⟨[(4,tP 212),(5,tP 217),(24,tB v4)],(oM [.w 213,.w 214,.w 215,.w 216,.z,.z] 217 174 (bB {ci with aU:=r1,eu:=r2})++[(212,.var 174 (kM [.z,.z,.z,.z,.z,.z] (bB ci)))]),218⟩ ?_ ?_
 .exact az Hj
 refine cC H ?_ ?_<;>intro H
 .cases H
  refine bA ((dE (o:=212) (j:=35) 46 6 true)) ?_
  refine bA (wS 213 210) ?_
  refine bA (wS 214 211) ?_
  refine bA (wS 215 212) ?_
  refine bA (wS 216 213) ?_
  refine bA (wS 218 214) ?_
  refine bA ((wB 214 (([]:List av).length))) ?_
  exact bj
 obtain⟨⟨v79,v84,v85⟩,Hj,H⟩:=ob H
 refine jB ⟨[(4,tP 212),(5,tP 217)],(oM [.w 213,.w 214,.w 215,.w 216,.z,.n 218] 217 174 (bB (⟨v84,v85,[],v79⟩:bO))++[(212,.var 174 (kM [.z,.z,.z,.z,.z,.z] (bB ci)))]),219⟩ ?_ ?_
 .refine iT Hj (λq=>⟨[(4,tP 212),(5,tP 217),(6,tI q.1)],(oM [.w 213,.w 214,.w 215,.w 216,.z,.n 218] 217 174 (bB (⟨q.2.2.1,q.2.2.2,[],q.2.1⟩:bO))++[(212,.var 174 (kM [.z,.z,.z,.z,.z,.z] (bB ci)))]),219⟩) ?_ (by refine am (dE (o:=217) (j:=35) 46 6 true) ?_;refine am (wB 218 (([]:List av).length)) ?_;exact wo)
  rintro⟨v5,v36,v41,v42⟩ o H
  refine ad ?_
  refine cC H ?_ ?_<;>intro H
  .refine aa H λv86 Hj H=>jR ⟨[(4,tP 212),(5,tP 217),(6,tI v5),(7,tI v41.ax.bE),(47,tB v86)],(oM [.w 213,.w 214,.w 215,.w 216,.z,.n 218] 217 174 (bB (⟨v41,v42,[],v36⟩:bO))++[(212,.var 174 (kM [.z,.z,.z,.z,.z,.z] (bB ci)))]),219⟩ ?_ ?_
   .exact az Hj
   refine cC H ?_ ?_<;>intro H
   .exact aE H
   refine aa H λx87 hx87 H=>nA (xwT hx87) ?_
   refine nA (oe (he:=dF _ hx87)) ?_
   refine aa H λr88 q88 H=>nA (ca (hF:=EI.h q88)) ?_
   refine aa H λr89 q89 H=>nA (ca (hF:=EM.h q89)) ?_
   refine cC H ?_ ?_<;>intro H
   .cases H
    refine E4 (λhq=>?_)
    cases hq
    refine wI ?_
    refine am (wS 213 219) ?_
    refine am (wS 214 220) ?_
    refine am (wS 215 221) ?_
    refine am (wS 216 222) ?_
    exact wo
   obtain⟨r90,q90,H⟩:=ob H
   rcases hb:r90.2.2 with _|_
   .have H:=bf hb H
    refine tF rfl (ca (hF:=ER q90 hb)) ?_
    simp only[hb]
    refine wI ?_
    cases H
    refine E4 (λhq=>?_)
    cases hq
    refine wI ?_
    refine am (wS 213 219) ?_
    refine am (wS 214 220) ?_
    refine am (wS 215 221) ?_
    refine am (wS 216 222) ?_
    exact wo
   have H:=bt hb H
   refine tF rfl (ca (hF:=ES q90 hb)) ?_
   simp only[hb]
   refine wI ?_
   refine zI (List.range 17) ?_
   refine aa H λr91 q91 H=>zA (ca (hF:=(A9.h q91).frzs (by repeat (first|exact trivial|refine⟨?_,?_⟩|exact lm _|rfl)))) ?_
   obtain⟨h,H⟩:=rq H
   refine zB bC (fg rfl (AJ (enc:=cN) (ys:=v36) (zs:=[r91]) h (by first|exact List.cons_ne_nil _ _|simp) rfl (λ_=>rfl) (by first|rfl|simp) (.w rfl (by first|rfl|exact lm _|simp)) rfl rfl rfl rfl rfl rfl rfl rfl rfl rfl)) bC ?_
   refine wA (spx 100081) ?_
   cases H
   refine sV ?_
   refine am (d8 218) ?_
   refine am (wS 213 219) ?_
   refine am (wS 214 220) ?_
   refine am (wS 215 223) ?_
   refine am (wS 216 222) ?_
   exact wo
  exact aE H
 cases H
 refine bA (wS 213 210) ?_
 refine bA (wS 214 211) ?_
 refine bA (wS 215 212) ?_
 refine bA (wS 216 213) ?_
 refine bA (wS 218 214) ?_
 exact bj⟩
def oc (a0:ah) (a1:aF):Option bN:=
 abJ (nU a0.bF.ID (WR (a0.bF.cW+1))) λr1=>abJ (qS a0.bF r1) λr2=>bif(eqB r2.1.ID.eb a0.bF.ID.eb&&(eqB r2.1.ID.bV a0.bF.ID.bV&&(eqB r2.1.eX a0.bF.eX&&(eqB r2.1.cW a0.bF.cW&&true)))) then(abJ (dK a0 []) λr3=>some r3) else(abJ (dK {a0 with bF:=r2.1,aK:=r2.2,bI:=r2.1.cW} [(⟨2,a1.bh,r2.1.cW,0,0,r2.2,0⟩:aF)]) λr4=>some r4)
instance QS {a0:ah} {r:bN}:FC prog (oc a0 a1=some r) 308 [.agg (bS a0),.agg (cU a1)] [.agg (qM [.o,.o,.o,.o] (ef r))]:=gF func308 ntmps308 (hz 1)
def mK (a0:ah) (a1:Int):Option aF:=
 abJ (nB a0.aZ (⟨a1,a0.bh,a0.ag,a0.aV,0,cp,0⟩:aF)) λr1=>some r1
instance Sv {a0:ah} {a1:Int} {r:aF}:FC prog (mK a0 a1=some r) 358 [.agg (bS a0),aI a1] [.agg (qM [] (d6 r))]:=gF func358 ntmps358
def gv (a0:Int) (a1:aF):Option Bool:=
 abJ (sS a0 a1) λr1=>some (eqB a1.iK r1)
instance Sp {r:Bool}:FC prog (gv a0 a1=some r) 114 [aI a0,.agg (cU a1)] [.c (.d (.b r))]:=gF func114 ntmps114
def jX (a0:ah) (a1:aF):(Int×Int)->Option (cr (Int×Int) (Int))
 |(v4,v5)=>bif ltB v5 (a0.ax.aC.length:Int) then(abJ (ix a0.ax.aC v5) λx9=>abJ (bif ltB x9.cW a1.bV then(some (WR (v4+(x9.a9.length:Int)))) else(some v4)) λ(v10:Int)=>some (.next (v10,WR (v5+1)))) else(some (.done v4))
def mY (a0:ah) (a1:aF):Option bN:=
 abJ (bif !eqB a0.bp 1 then(some true) else(bif !eqB a1.ag a0.ag then(some true) else(abJ (gv a0.aZ a1) λr2=>bif !r2 then(some true) else(some (ltB a0.ax.bE a1.bV))))) λ(v1:Bool)=>bif v1 then(abJ (dK a0 []) λr3=>some r3) else(abJ (iter (jX a0 a1) FU (0,0)) λ(v8:Int)=>abJ (pV a0.b9 v8) λr11=>abJ (kR a0.ax a1.bV) λr12=>abJ (dK {a0 with dT:=0,ax:=r12,b9:=r11.1} []) λr13=>some r13)
instance O1 {a0:ah} {r:bN}:FC prog (mY a0 a1=some r) 311 [.agg (bS a0),.agg (cU a1)] [.agg (qM [.o,.o,.o,.o] (ef r))]:=gF func311 ntmps311 (hb 11 32) (hm 0 5 39) (he 0 5 39) (hi 47 5)
def ov (a0:Int) (a1:av):Option Bool:=
 abJ (mX a1.bz) λr1=>abJ (bif r1 then(bif eqB a1.bz.cZ 1 then(abJ (sh a0 a1.aV) λr3=>abJ (we r3 a1.bz) λr4=>some r4) else(some false)) else(some false)) λ(v2:Bool)=>some v2
instance xO {a1:av} {r:Bool}:FC prog (ov a0 a1=some r) 107 [aI a0,.agg (cN a1)] [.c (.d (.b r))]:=gF func107 ntmps107 (hb 8 4)
def mt (a0:lp) (a1:cy):Option (lp×ie):=
 abJ (n8 a0) λr1=>bif !r1 then(some (a0,{eL with Code:=1})) else(abJ (mF a0.eX a0.di a1) λr2=>abJ (bif eqB r2 0 then(abJ (kr a0.eX a1.ew a1.f4) λr8=>abJ (eT a0.eX [3,a1.ew]) λr9=>abJ (lx a0.eX a1.ew r8) λr10=>some (r8,(⟨r2,r9,r10.eX,0⟩:ie))) else(abJ (bif eqB r2 2 then(some (eqB r2 2)) else(some (eqB r2 3))) λ(v11:Bool)=>abJ (bif v11 then(abJ (rE a0.eX a1.ew a0.di) λr13=>some r13) else(some 0)) λ(v12:Int)=>some (a0.di,{eL with Code:=r2,Ov:=v12}))) λ((v6,v7):Int×ie)=>some ({a0 with di:=v6},v7))
instance Kj {a0:lp} {a1:cy} {r:lp×ie}:FC prog (mt a0 a1=some r) 362 [.agg (Et a0),.agg (lY a1)] [.agg (qM [] (xH r.1)),.agg (qM [] (gB r.2))]:=⟨λH=>by
 refine fI func362 ntmps362 ?_
 refine aa H λr1 q1 H=>nA (ca (hF:=EK.h q1)) ?_
 refine cC H ?_ ?_<;>intro H
 .exact ao H
 refine aa H λr2 q2 H=>nA (ca (hF:=Dk.h q2)) ?_
 obtain⟨⟨v6,v7⟩,Hj,H⟩:=ob H
 refine jA ⟨[(2,tP 0),(4,tP 2),(5,tP 3),(7,tP 4)],[(0,.var 61 (kM [] (xH {a0 with di:=v6}))),(2,.var 61 (kM [] (xH Kh))),(3,.var 300 (kM [] (gB eL))),(4,.var 300 (kM [] (gB v7)))],5⟩ ?_ ?_
 .refine cC Hj ?_ ?_<;>intro H
  .refine aa H λr8 q8 H=>nA (ca (hF:=Bb.h q8)) ?_
   refine aa H λr9 q9 H=>nA (ca (hF:=jW.h q9)) ?_
   refine aa H λr10 q10 H=>nA (ca (hF:=Ce.h q10)) ?_
   exact ai H
  refine aa H λv11 Hj H=>jA ⟨[(2,tP 0),(3,tP 1),(4,tP 2),(5,tP 3),(7,tP 4),(49,tB v11)],[(0,.var 61 (kM [] (xH a0))),(1,.var 40 (kM [] (eP a1))),(2,.var 61 (kM [] (xH Kh))),(3,.var 300 (kM [] (gB eL))),(4,.var 300 (kM [] (gB {eL with Code:=r2})))],5⟩ ?_ ?_
  .exact az Hj
  refine aa H λv12 Hj H=>jA ⟨[(2,tP 0),(4,tP 2),(5,tP 3),(7,tP 4)],[(0,.var 61 (kM [] (xH a0))),(2,.var 61 (kM [] (xH Kh))),(3,.var 300 (kM [] (gB eL))),(4,.var 300 (kM [] (gB {eL with Code:=r2,Ov:=v12})))],5⟩ ?_ ?_
  .refine cC Hj ?_ ?_<;>intro H
   .refine aa H λr13 q13 H=>nA (ca (hF:=EQ.h q13)) ?_
    exact ai H
   exact ai H
  exact ai H
 refine zI (List.range 4) ?_
 refine wA (spx 100154) ?_
 refine wA (spx 100153) ?_
 cases H
 exact dM⟩
def mb (a0:aG) (a1:aF):Option aX:=
 abJ (mt a0.dr a1.cd) λr1=>bif !eqB r1.2.Code 0 then(abJ (cO a0 []) λr2=>some r2) else(abJ (cO {a0 with dr:=r1.1,ag:=a1.ag,aZ:=r1.2.vO} [(⟨3,a0.bh,a1.ag,0,r1.2.w8,cp,0⟩:aF)]) λr3=>some r3)
instance Nl {a0:aG} {r:aX}:FC prog (mb a0 a1=some r) 314 [.agg (cF a0),.agg (cU a1)] [.agg (qM [.o,.o,.o] (dm r))]:=gF func314 ntmps314
end Go.AM
