/- A part. -/
import Derived.Test.YtmginjngmidkbaaGreatI5
set_option linter.unusedVariables false
open Option renaming bind->abU
namespace Go.AM
open Go.Proofs
open Tryz
attribute [local irreducible] AWN NS AWO AWR AWC DR DZ dS gp iter
set_option maxRecDepth 100000
set_option maxHeartbeats 40000000
variable {a0:Int} {a1:Go.AM.aH}
def nW (a0:Int) (a1:aH):Option aH:=
 abU (sR a0 a1) λr1=>some {a1 with jE:=r1}
instance GO {r:aH}:FC prog (nW a0 a1=some r) 231 [aI a0,.agg (cZ a1)] [.agg (qM [] (dt r))]:=gF func231 ntmps231
def mW (a0:ah) (a1:Int):Option aH:=
 abU (nW a0.aZ (⟨a1,a0.bg,a0.ag,a0.aX,0,cr,0⟩:aH)) λr1=>some r1
instance SE {a0:ah} {a1:Int} {r:aH}:FC prog (mW a0 a1=some r) 300 [.agg (bZ a0),aI a1] [.agg (qM [] (dt r))]:=gF func300 ntmps300
def mh (a0:ah) (a1:aH):Option bI:=
 abU (bif leB a0.bL 0 then(some true) else(bif !eqB a1.ag a0.bL then(some true) else(abU (pK a0.aK a1.bW) λr2=>bif !r2 then(some true) else(some (leB 999999 a0.aX))))) λ(v1:Bool)=>bif v1 then(abU (dL a0 []) λr3=>some r3) else(abU (mW (⟨a0.bE,a0.gG,1,cr,0,a0.bL,a0.aK.fo,WR (a0.aX+1),a1.bg,0,ed,a0.aG,a0.aw,a0.dP,a0.bU⟩:ah) 4) λr4=>abU (dL (⟨a0.bE,a0.gG,1,cr,0,a0.bL,a0.aK.fo,WR (a0.aX+1),a1.bg,0,ed,a0.aG,a0.aw,a0.dP,a0.bU⟩:ah) [r4]) λr5=>some r5)
instance Nz {a0:ah} {r:bI}:FC prog (mh a0 a1=some r) 225 [.agg (bZ a0),.agg (cZ a1)] [.agg (qM [.o,.o,.o,.o] (eh r))]:=gF func225 ntmps225 (hb 8 27) (hz 12)
def ju (a0:Int) (a1:aH):Option Bool:=
 abU (sR a0 a1) λr1=>some (eqB a1.jE r1)
instance xc {r:Bool}:FC prog (ju a0 a1=some r) 118 [aI a0,.agg (cZ a1)] [.c (.d (.b r))]:=gF func118 ntmps118
def kq (a0:ah) (a1:aH):(Int×Int)->Option (ct (Int×Int) (Int))
 |(v4,v5)=>bif ltB v5 (a0.aw.aA.length:Int) then(abU (ix a0.aw.aA v5) λx9=>abU (bif ltB x9.c8 a1.bW then(some (WR (v4+(x9.bb.length:Int)))) else(some v4)) λ(v10:Int)=>some (.next (v10,WR (v5+1)))) else(some (.done v4))
def nu (a0:ah) (a1:aH):Option bI:=
 abU (bif !eqB a0.bi 1 then(some true) else(bif !eqB a1.ag a0.ag then(some true) else(abU (ju a0.aZ a1) λr2=>bif !r2 then(some true) else(some (ltB a0.aw.bB a1.bW))))) λ(v1:Bool)=>bif v1 then(abU (dL a0 []) λr3=>some r3) else(abU (iter (kq a0 a1) FU (0,0)) λ(v8:Int)=>abU (p5 a0.bU v8) λr11=>abU (lg a0.aw a1.bW) λr12=>abU (dL {a0 with dX:=0,aw:=r12,bU:=r11.1} []) λr13=>some r13)
instance Pg {a0:ah} {r:bI}:FC prog (nu a0 a1=some r) 227 [.agg (bZ a0),.agg (cZ a1)] [.agg (qM [.o,.o,.o,.o] (eh r))]:=gF func227 ntmps227 (hb 11 32) (hm 0 5 39) (he 0 5 39) (hi 47 5)
def rC (a0:Int) (a1:ax):Option Bool:=
 abU (nr a1.bC) λr1=>abU (bif r1 then(bif eqB a1.bC.cY 1 then(abU (sa a0 a1.aX) λr3=>abU (wg r3 a1.bC) λr4=>some r4) else(some false)) else(some false)) λ(v2:Bool)=>some v2
instance xP {a1:ax} {r:Bool}:FC prog (rC a0 a1=some r) 117 [aI a0,.agg (db a1)] [.c (.d (.b r))]:=gF func117 ntmps117 (hb 8 4)
def sO (a0:Int) (a1:Int) (a2:Int) (a3:ax):Option (ae×Bool):=
 abU (bif !eqB a3.ag a1 then(some true) else(bif !eqB a3.aX a2 then(some true) else(abU (rC a0 a3) λr2=>some (!r2)))) λ(v1:Bool)=>bif v1 then(some (bT,false)) else(abU (sa a0 a2) λr3=>abU (wm r3 a3.bC) λr4=>some ((⟨a3.bC.fU,r4⟩:ae),true))
theorem GM {a1:Int} {a2:Int} {a3:ax} {r:ae×Bool} (H:sO a0 a1 a2 a3=some r) (hflag:r.2=true):Fn prog 81 [aI a0,aI a1,aI a2,.agg (db a3)] [.agg (qM [.o] (dh r.1)),.c (.d (.b r.2))]:=by
 refine fI func81 ntmps81 ?_
 refine aa H λv1 Hj H=>jR ⟨[(0,tI a0),(2,tI a2),(7,tP 0),(8,tP 1),(26,tB v1)],[(0,.var 47 (kM [.f] (iy a3))),(1,.var 131 (kM [.z] (dh bT)))],2⟩ ?_ ?_
 .refine gC Hj ?_ ?_<;>intro H
  .exact ai H
  refine gC H ?_ ?_<;>intro H
  .exact ai H
  refine aa H λr2 q2 H=>nG (ca (hF:=xP.h q2)) ?_
  exact ai H
 refine cC H ?_ ?_<;>intro H
 .cases H
  cases hflag
 refine dI ?_
 refine aa H λr3 q3 H=>dA (ca (hF:=CT.h q3)) ?_
 refine aa H λr4 q4 H=>dA (ca (hF:=xU.h q4)) ?_
 refine wI ?_
 exact ao H
theorem GL {a1:Int} {a2:Int} {a3:ax} {r:ae×Bool} (H:sO a0 a1 a2 a3=some r) (hflag:r.2=false):Fn prog 81 [aI a0,aI a1,aI a2,.agg (db a3)] [.agg (qM [.z] (dh r.1)),.c (.d (.b r.2))]:=by
 refine fI func81 ntmps81 ?_
 refine aa H λv1 Hj H=>jR ⟨[(0,tI a0),(2,tI a2),(7,tP 0),(8,tP 1),(26,tB v1)],[(0,.var 47 (kM [.f] (iy a3))),(1,.var 131 (kM [.z] (dh bT)))],2⟩ ?_ ?_
 .refine gC Hj ?_ ?_<;>intro H
  .exact ai H
  refine gC H ?_ ?_<;>intro H
  .exact ai H
  refine aa H λr2 q2 H=>nG (ca (hF:=xP.h q2)) ?_
  exact ai H
 refine cC H ?_ ?_<;>intro H
 .exact ao H
 refine dI ?_
 refine aa H λr3 q3 H=>dA (ca (hF:=CT.h q3)) ?_
 refine aa H λr4 q4 H=>dA (ca (hF:=xU.h q4)) ?_
 refine wI ?_
 cases H
 cases hflag
def mn (a0:aJ) (a1:aH):Option aY:=
 abU (mF a0.dq a1.cm) λr1=>bif !eqB r1.2.Code 0 then(abU (cV a0 []) λr2=>some r2) else(abU (cV {a0 with dq:=r1.1,ag:=a1.ag,aZ:=r1.2.vQ} [(⟨3,a0.bg,a1.ag,0,r1.2.yI,cr,0⟩:aH)]) λr3=>some r3)
instance Ae {a0:aJ} {r:aY}:FC prog (mn a0 a1=some r) 232 [.agg (c9 a0),.agg (cZ a1)] [.agg (qM [.o,.o,.o] (cd r))]:=gF func232 ntmps232
def qx (a0:aJ):Option aH:=
 abU (nW a0.aZ (⟨5,a0.bg,a0.ag,a0.aX,0,cr,0⟩:aH)) λr1=>some r1
instance WB {a0:aJ} {r:aH}:FC prog (qx a0=some r) 235 [.agg (c9 a0)] [.agg (qM [] (dt r))]:=gF func235 ntmps235
def sQ (a0:Int) (a1:Int) (a2:Int) (a3:ae):Option ax:=
 abU (sa a0 a2) λr1=>abU (EX r1 1 a3.c8 a3.bb) λr2=>some (⟨a1,a2,r2⟩:ax)
instance Be {a1:Int} {a2:Int} {a3:ae} {r:ax}:FC prog (sQ a0 a1 a2 a3=some r) 308 [aI a0,aI a1,aI a2,.agg (aM a3)] [.agg (qM [.o] (iy r))]:=gF func308 ntmps308 (hz 1)
def lJ (a0:ah) (r1:Int):(Int×List ax)->Option (ct (Int×List ax) (List ax))
 |(v2,v3)=>bif ltB v2 (((a0.aw.aA.take (r1).toNat).length:Nat):Int) then(abU (ix (a0.aw.aA.take (r1).toNat) v2) λx7=>abU (sQ a0.aZ a0.ag a0.aX x7) λr8=>bif da 64 (v3++[r8]).length then(some (.next (WR (v2+1),(v3++[r8])))) else none) else(some (.done v3))
def qs (a0:ah):Option (List ax):=
 bif !eqB a0.bi 1 then(some ([]:List ax)) else(abU (Q4 2 (a0.aw.aA.length:Int)) λr1=>bif eS a0.aw.aA 0 r1 then(abU (iter (lJ a0 r1) FU (0,([]:List ax))) λ(v6:List ax)=>some v6) else none)
instance GN {a0:ah} {r:List ax}:FC prog (qs a0=some r) 237 [.agg (bZ a0)] [.c (.own 47 6 (r.map db) r.length)]:=⟨λH=>by
 refine fI func237 ntmps237 ?_
 refine cC H ?_ ?_<;>intro H
 .exact ao H
 refine dI ?_
 refine aa H λr1 q1 H=>dA (ca (hF:=Ny.h q1)) ?_
 obtain⟨h,H⟩:=rq H
 refine dA (WV (enc:=aM) h (λ_=>rfl) rfl rfl rfl) ?_
 refine wI ?_
 refine aa H λv6 Hj H=>jB ⟨[(3,.v (.c (.w 1 v6.length)))],[(1,w47 v6)],2⟩ ?_ ?_
 .refine iT Hj (λq=>⟨[(1,tP 0),(3,.v (.c (.w 1 q.2.length))),(19,.v (.c (.d false (.l ((a0.aw.aA.take (r1).toNat).map aM))))),(20,tI (((a0.aw.aA.take (r1).toNat).length:Nat):Int)),(21,tI q.1)],[(0,.var 75 (kM [.f,.f,.f] (c7 a0))),(1,w47 q.2)],2⟩) ?_
  rintro⟨v2,v3⟩ o H
  refine ad ?_
  refine cC H ?_ ?_<;>intro H
  .refine aa H λx7 hx7 H=>nA (xdT (enc:=aM) hx7) ?_
   refine aa H λr8 q8 H=>nA (ca (hF:=Be.h q8)) ?_
   refine bG (aV (o:=3)) ?_
   refine aW (bN (k:=33)) ?_
   obtain⟨h,H⟩:=rq H
   refine sA (apT (enc:=db) (ys:=v3) (zs:=[r8]) h) ?_
   exact aN H
  exact aE H
 cases H
 exact bX⟩
def tV:(Int×List ax×ah×am)->Option (ct (Int×List ax×ah×am) (List ax×ah×am))
 |(v5,v36,v41,v42)=>bif ltB v5 2 then(abU (bif ltB (v41.aG.length:Int) v41.aw.bB then(some true) else(some (leB 8 (v41.aw.aA.length:Int)))) λ(v86:Bool)=>bif v86 then(some (.done (v36,v41,v42))) else(abU (ix v41.aG (WR (v41.aw.bB-1))) λx87=>abU (rv v41 v42 (x87.bb.length:Int)) λr88=>abU (oA r88.1 (x87.bb.length:Int)) λr89=>bif ltB 0 r89 then(some (.done (v36,r88.1,r88.2))) else(abU (qt r88.1.aw x87.bb) λr90=>bif r90.2.2 then(abU (sQ r88.1.aZ r88.1.ag r88.1.aX r90.2.1) λr91=>bif da 64 (v36++[r91]).length then(some (.next (WR (v5+1),(v36++[r91]),{r88.1 with aw:=r90.1},r88.2))) else none) else(some (.done (v36,r88.1,r88.2)))))) else(some (.done (v36,v41,v42)))
def Bf (a0:ah) (a1:am):Option bM:=
 abU (gL a0) λr1=>abU (eK a1) λr2=>abU (i7 a0) λr3=>abU (bif !r3 then(some true) else(some (!eqB a0.bi 1))) λ(v4:Bool)=>bif v4 then(some {cj with aU:=r1,d8:=r2}) else(abU (iter (tV) FU (0,([]:List ax),r1,r2)) λ((v79,v84,v85):List ax×ah×am)=>some (⟨v84,v85,[],v79⟩:bM))
theorem NB {a0:ah} {a1:am} {r:bM} (H:Bf a0 a1=some r):FnV prog 238 [] [.v (.agg (kM [.f,.f,.f] (c7 a0))),.v (.agg (kM [.f] (cq a1)))] [] (.v (.agg (kM [.w 210,.w 211,.w 212,.w 213,.z,.n 214] (bD {r with ja:=[]})))) [(210,w3 r.aU.gG.bJ),(211,Sq r.aU.aG),(212,Kw r.aU.aw.aA),(213,w115 r.d8.aj),(214,n47 r.cA)]:=by
 refine fV func238 ntmps238 ?_
 refine zI (List.range 7) ?_
 refine aa H λr1 q1 H=>zA (ca (hF:=oI.h q1)) ?_
 refine aa H λr2 q2 H=>zA (ca (hF:=lK.h q2)) ?_
 refine wA (spx 100618) ?_
 refine aa H λr3 q3 H=>nA (ca (hF:=tR.h q3)) ?_
 refine aa H λv4 Hj H=>jR ⟨[(4,tP 212),(5,tP 217),(24,tB v4)],(oM [.w 213,.w 214,.w 215,.w 216,.z,.z] 217 195 (bD {cj with aU:=r1,d8:=r2})++[(212,.var 195 (kM [.z,.z,.z,.z,.z,.z] (bD cj)))]),218⟩ ?_ ?_
 .exact az Hj
 refine cC H ?_ ?_<;>intro H
 .cases H
  refine bF ((dH (o:=212) (j:=35) 47 6 true)) ?_
  refine bF (wS 213 210) ?_
  refine bF (wS 214 211) ?_
  refine bF (wS 215 212) ?_
  refine bF (wS 216 213) ?_
  refine bF (wS 218 214) ?_
  refine bF ((wB 214 (([]:List ax).length))) ?_
  exact cg
 obtain⟨⟨v79,v84,v85⟩,Hj,H⟩:=ob H
 refine jB ⟨[(4,tP 212),(5,tP 217)],(oM [.w 213,.w 214,.w 215,.w 216,.z,.n 218] 217 195 (bD (⟨v84,v85,[],v79⟩:bM))++[(212,.var 195 (kM [.z,.z,.z,.z,.z,.z] (bD cj)))]),219⟩ ?_ ?_
 .refine iT Hj (λq=>⟨[(4,tP 212),(5,tP 217),(6,tI q.1)],(oM [.w 213,.w 214,.w 215,.w 216,.z,.n 218] 217 195 (bD (⟨q.2.2.1,q.2.2.2,[],q.2.1⟩:bM))++[(212,.var 195 (kM [.z,.z,.z,.z,.z,.z] (bD cj)))]),219⟩) ?_ (by refine an (dH (o:=217) (j:=35) 47 6 true) ?_;refine an (wB 218 (([]:List ax).length)) ?_;exact wo)
  rintro⟨v5,v36,v41,v42⟩ o H
  refine ad ?_
  refine cC H ?_ ?_<;>intro H
  .refine aa H λv86 Hj H=>jR ⟨[(4,tP 212),(5,tP 217),(6,tI v5),(7,tI v41.aw.bB),(47,tB v86)],(oM [.w 213,.w 214,.w 215,.w 216,.z,.n 218] 217 195 (bD (⟨v41,v42,[],v36⟩:bM))++[(212,.var 195 (kM [.z,.z,.z,.z,.z,.z] (bD cj)))]),219⟩ ?_ ?_
   .exact az Hj
   refine cC H ?_ ?_<;>intro H
   .exact aE H
   refine aa H λx87 hx87 H=>nA (xwT hx87) ?_
   refine nA (oe (he:=ez _ hx87)) ?_
   refine aa H λr88 q88 H=>nA (ca (hF:=ES.h q88)) ?_
   refine aa H λr89 q89 H=>nA (ca (hF:=EY.h q89)) ?_
   refine cC H ?_ ?_<;>intro H
   .cases H
    refine Fg (λhq=>?_)
    cases hq
    refine wI ?_
    refine an (wS 213 219) ?_
    refine an (wS 214 220) ?_
    refine an (wS 215 221) ?_
    refine an (wS 216 222) ?_
    exact wo
   obtain⟨r90,q90,H⟩:=ob H
   rcases hb:r90.2.2 with _|_
   .have H:=bf hb H
    refine tH rfl (ca (hF:=E7 q90 hb)) ?_
    simp only[hb]
    refine wI ?_
    cases H
    refine Fg (λhq=>?_)
    cases hq
    refine wI ?_
    refine an (wS 213 219) ?_
    refine an (wS 214 220) ?_
    refine an (wS 215 221) ?_
    refine an (wS 216 222) ?_
    exact wo
   have H:=bt hb H
   refine tH rfl (ca (hF:=E8 q90 hb)) ?_
   simp only[hb]
   refine wI ?_
   refine zI (List.range 17) ?_
   refine aa H λr91 q91 H=>zA (ca (hF:=(Be.h q91).frzs (by repeat (first|exact trivial|refine⟨?_,?_⟩|exact lm _|rfl)))) ?_
   obtain⟨h,H⟩:=rq H
   refine zB bK (fQ rfl (AJ (enc:=db) (ys:=v36) (zs:=[r91]) h (by first|exact List.cons_ne_nil _ _|simp) rfl (λ_=>rfl) (by first|rfl|simp) (.w rfl (by first|rfl|exact lm _|simp)) rfl rfl rfl rfl rfl rfl rfl rfl rfl rfl)) bK ?_
   refine wA (spx 100617) ?_
   cases H
   refine tD ?_
   refine an (ec 218) ?_
   refine an (wS 213 219) ?_
   refine an (wS 214 220) ?_
   refine an (wS 215 223) ?_
   refine an (wS 216 222) ?_
   exact wo
  exact aE H
 cases H
 refine bF (wS 213 210) ?_
 refine bF (wS 214 211) ?_
 refine bF (wS 215 212) ?_
 refine bF (wS 216 213) ?_
 refine bF (wS 218 214) ?_
 exact cg
end Go.AM
