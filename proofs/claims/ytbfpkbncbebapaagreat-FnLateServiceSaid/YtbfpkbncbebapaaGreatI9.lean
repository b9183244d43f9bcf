/- A part. -/
import Derived.Test.YtbfpkbncbebapaaGreatI8
set_option linter.unusedVariables false
open Option renaming bind->aaC
namespace Go.AM
open Go.Proofs
open Tryz
attribute [local irreducible] AWN NS AWO AWR AWC DR dO ip
set_option maxRecDepth 100000
set_option maxHeartbeats 40000000
def mJ (a0:Int) (a1:aR):Option aR:=
 aaC (rx a0 a1) λr1=>some {a1 with tL:=r1}
theorem tp {a0:Int} {a1:aR} {r:aR} (H:mJ a0 a1=some r):Fn prog 279 [aI a0,.agg (dY a1)] [.agg (qM [] (ig r))]:=by
 refine fI func279 ntmps279 ?_
 refine aa H λr1 q1 H=>nA (ca (hF:=zL q1)) ?_
 exact ao H
def py (a0:aw):Option aR:=
 aaC (mJ a0.aV (⟨5,a0.aE,a0.ag,a0.aF,0,c7,0⟩:aR)) λr1=>some r1
theorem yf {a0:aw} {r:aR} (H:py a0=some r):Fn prog 224 [.agg (dq a0)] [.agg (qM [] (ig r))]:=by
 refine fI func224 ntmps224 ?_
 refine aa H λr1 q1 H=>nA (ca (hF:=tp q1)) ?_
 exact ao H
def rv (a0:Int) (a1:Int) (a2:Int) (a3:an):Option aK:=
 aaC (qH a0 a2) λr1=>aaC (DU r1 1 a3.cQ a3.a8) λr2=>some (⟨a1,a2,r2⟩:aK)
theorem zJ {a0:Int} {a1:Int} {a2:Int} {a3:an} {r:aK} (H:rv a0 a1 a2 a3=some r):Fn prog 282 [aI a0,aI a1,aI a2,.agg (aN a3)] [.agg (qM [.o] (lS r))]:=by
 refine fI func282 ntmps282 ?_
 refine zI (List.range 12) ?_
 refine aa H λr1 q1 H=>zA (ca (hF:=sE q1)) ?_
 refine aa H λr2 q2 H=>zA (ca (hF:=Mg q2)) ?_
 refine wA (spx 100516) ?_
 exact ao H
def kS (a0:ae) (r1:Int):(Int×List aK)->Option (cK (Int×List aK) (List aK))
 |(v2,v3)=>bif ltB v2 (((a0.aq.aD.take (r1).toNat).length:Nat):Int) then(aaC (ix (a0.aq.aD.take (r1).toNat) v2) λx7=>aaC (rv a0.aV a0.ag a0.aF x7) λr8=>bif em 64 (v3++[r8]).length then(some (.next (WR (v2+1),(v3++[r8])))) else none) else(some (.done v3))
def pm (a0:ae):Option (List aK):=
 bif !eqB a0.aG 1 then(some ([]:List aK)) else(aaC (Md 2 (a0.aq.aD.length:Int)) λr1=>bif it a0.aq.aD 0 r1 then(aaC (iter (kS a0 r1) FU (0,([]:List aK))) λ(v6:List aK)=>some v6) else none)
theorem Fi {a0:ae} {r:List aK} (H:pm a0=some r):Fn prog 227 [.agg (cG a0)] [.c (.own 46 6 (r.map d5) r.length)]:=by
 refine fI func227 ntmps227 ?_
 refine cC H ?_ ?_<;>intro H
 .exact ao H
 refine dI ?_
 refine aa H λr1 q1 H=>dA (ca (hF:=HQ q1)) ?_
 obtain⟨h,H⟩:=rq H
 refine dA (Xh (enc:=aN) h (λ_=>rfl) rfl rfl rfl) ?_
 refine wI ?_
 refine aa H λv6 Hj H=>jB ⟨[(3,.v (.c (.w 1 v6.length)))],[(1,w46 v6)],2⟩ ?_ ?_
 .refine iT Hj (λq=>⟨[(1,tP 0),(3,.v (.c (.w 1 q.2.length))),(19,.v (.c (.d false (.l ((a0.aq.aD.take (r1).toNat).map aN))))),(20,tI (((a0.aq.aD.take (r1).toNat).length:Nat):Int)),(21,tI q.1)],[(0,.var 69 (kM [.f,.f,.f] (cW a0))),(1,w46 q.2)],2⟩) ?_
  rintro⟨v2,v3⟩ o H
  try dsimp only
  refine wI ?_
  refine cC H ?_ ?_<;>intro H
  .refine aa H λx7 hx7 H=>nA (xdT (enc:=aN) hx7) ?_
   refine aa H λr8 q8 H=>nA (ca (hF:=zJ q8)) ?_
   refine bN (bw (o:=3)) ?_
   refine aW (bJ (k:=33)) ?_
   obtain⟨h,H⟩:=rq H
   refine sA (apT (enc:=d5) (ys:=v3) (zs:=[r8]) h) ?_
   cases H
   refine eA ?_
   exact wo
  cases H
  refine et (λhq=>?_)
  cases hq
  refine wI ?_
  exact wo
 exact ao H
def sI:(Int×List aK×ae×av)->Option (cK (Int×List aK×ae×av) (List aK×ae×av))
 |(v5,v36,v41,v42)=>bif ltB v5 2 then(aaC (bif ltB (v41.ax.length:Int) v41.aq.bb then(some true) else(some (leB 8 (v41.aq.aD.length:Int)))) λ(v86:Bool)=>bif v86 then(some (.done (v36,v41,v42))) else(aaC (ix v41.ax (WR (v41.aq.bb-1))) λx87=>aaC (qr v41 v42 (x87.a8.length:Int)) λr88=>aaC (nn r88.1 (x87.a8.length:Int)) λr89=>bif ltB 0 r89 then(some (.done (v36,r88.1,r88.2))) else(aaC (pt r88.1.aq x87.a8) λr90=>bif r90.2.2 then(aaC (rv r88.1.aV r88.1.ag r88.1.aF r90.2.1) λr91=>bif em 64 (v36++[r91]).length then(some (.next (WR (v5+1),(v36++[r91]),{r88.1 with aq:=r90.1},r88.2))) else none) else(some (.done (v36,r88.1,r88.2)))))) else(some (.done (v36,v41,v42)))
def zK (a0:ae) (a1:av):Option bZ:=
 aaC (gr a0) λr1=>aaC (eN a1) λr2=>aaC (iC a0) λr3=>aaC (bif !r3 then(some true) else(some (!eqB a0.aG 1))) λ(v4:Bool)=>bif v4 then(some {dr with az:=r1,cy:=r2}) else(aaC (iter (sI) FU (0,([]:List aK),r1,r2)) λ((v79,v84,v85):List aK×ae×av)=>some (⟨v84,v85,[],v79⟩:bZ))
theorem Mi {a0:ae} {a1:av} {r:bZ} (H:zK a0 a1=some r):FnV prog 228 [] [.v (.agg (kM [.f,.f,.f] (cW a0))),.v (.agg (kM [.f] (cT a1)))] [] (.v (.agg (kM [.w 210,.w 211,.w 212,.w 213,.z,.n 214] (cq {r with eW:=[]})))) [(210,w3 r.az.gT.bv),(211,UF r.az.ax),(212,Lr r.az.aq.aD),(213,w132 r.cy.ay),(214,n46 r.b6)]:=by
 refine fV func228 ntmps228 ?_
 refine zI (List.range 7) ?_
 refine aa H λr1 q1 H=>zA (ca (hF:=kX q1)) ?_
 refine aa H λr2 q2 H=>zA (ca (hF:=fj q2)) ?_
 refine wA (spx 100570) ?_
 refine aa H λr3 q3 H=>nA (ca (hF:=nj q3)) ?_
 refine aa H λv4 Hj H=>jR ⟨[(4,tP 212),(5,tP 217),(24,tB v4)],(oM [.w 213,.w 214,.w 215,.w 216,.z,.z] 217 188 (cq {dr with az:=r1,cy:=r2})++[(212,.var 188 (kM [.z,.z,.z,.z,.z,.z] (cq dr)))]),218⟩ ?_ ?_
 .refine gC Hj ?_ ?_<;>intro H
  .exact ai H
  exact ai H
 refine cC H ?_ ?_<;>intro H
 .cases H
  refine bO ((gU (o:=212) (j:=35) 46 6 true)) ?_
  refine bO (wS 213 210) ?_
  refine bO (wS 214 211) ?_
  refine bO (wS 215 212) ?_
  refine bO (wS 216 213) ?_
  refine bO (wS 218 214) ?_
  refine bO ((wB 214 (([]:List aK).length))) ?_
  exact cV
 obtain⟨⟨v79,v84,v85⟩,Hj,H⟩:=ob H
 refine jB ⟨[(4,tP 212),(5,tP 217)],(oM [.w 213,.w 214,.w 215,.w 216,.z,.n 218] 217 188 (cq (⟨v84,v85,[],v79⟩:bZ))++[(212,.var 188 (kM [.z,.z,.z,.z,.z,.z] (cq dr)))]),219⟩ ?_ ?_
 .refine iT Hj (λq=>⟨[(4,tP 212),(5,tP 217),(6,tI q.1)],(oM [.w 213,.w 214,.w 215,.w 216,.z,.n 218] 217 188 (cq (⟨q.2.2.1,q.2.2.2,[],q.2.1⟩:bZ))++[(212,.var 188 (kM [.z,.z,.z,.z,.z,.z] (cq dr)))]),219⟩) ?_ (by refine aH (gU (o:=217) (j:=35) 46 6 true) ?_;refine aH (wB 218 (([]:List aK).length)) ?_;exact wo)
  rintro⟨v5,v36,v41,v42⟩ o H
  try dsimp only
  refine wI ?_
  refine cC H ?_ ?_<;>intro H
  .refine aa H λv86 Hj H=>jR ⟨[(4,tP 212),(5,tP 217),(6,tI v5),(7,tI v41.aq.bb),(47,tB v86)],(oM [.w 213,.w 214,.w 215,.w 216,.z,.n 218] 217 188 (cq (⟨v41,v42,[],v36⟩:bZ))++[(212,.var 188 (kM [.z,.z,.z,.z,.z,.z] (cq dr)))]),219⟩ ?_ ?_
   .refine gC Hj ?_ ?_<;>intro H
    .exact ai H
    exact ai H
   refine cC H ?_ ?_<;>intro H
   .cases H
    refine et (λhq=>?_)
    cases hq
    refine wI ?_
    exact wo
   refine aa H λx87 hx87 H=>nA (xwT hx87) ?_
   refine nA (oe (he:=eU _ hx87)) ?_
   refine aa H λr88 q88 H=>nA (ca (hF:=DO q88)) ?_
   refine aa H λr89 q89 H=>nA (ca (hF:=wz q89)) ?_
   refine cC H ?_ ?_<;>intro H
   .cases H
    refine et (λhq=>?_)
    cases hq
    refine wI ?_
    refine aH (wS 213 219) ?_
    refine aH (wS 214 220) ?_
    refine aH (wS 215 221) ?_
    refine aH (wS 216 222) ?_
    exact wo
   obtain⟨r90,q90,H⟩:=ob H
   rcases hb:r90.2.2 with _|_
   .have H:=bf hb H
    refine vC rfl (ca (hF:=DY q90 hb)) ?_
    simp only[hb]
    refine wI ?_
    cases H
    refine et (λhq=>?_)
    cases hq
    refine wI ?_
    refine aH (wS 213 219) ?_
    refine aH (wS 214 220) ?_
    refine aH (wS 215 221) ?_
    refine aH (wS 216 222) ?_
    exact wo
   have H:=bt hb H
   refine vC rfl (ca (hF:=D0 q90 hb)) ?_
   simp only[hb]
   refine wI ?_
   refine zI (List.range 17) ?_
   refine aa H λr91 q91 H=>zA (ca (hF:=(zJ q91).frzs (by repeat (first|exact trivial|refine⟨?_,?_⟩|exact lm _|rfl)))) ?_
   obtain⟨h,H⟩:=rq H
   refine zB b7 (jp rfl (Hn (enc:=d5) (ys:=v36) (zs:=[r91]) h (by first|exact List.cons_ne_nil _ _|simp) rfl (λ_=>rfl) (by first|rfl|simp) (.w rfl (by first|rfl|exact lm _|simp)) rfl rfl rfl rfl rfl rfl rfl rfl rfl rfl)) b7 ?_
   refine wA (spx 100569) ?_
   cases H
   refine eA ?_
   refine aH (lk 218) ?_
   refine aH (wS 213 219) ?_
   refine aH (wS 214 220) ?_
   refine aH (wS 215 223) ?_
   refine aH (wS 216 222) ?_
   exact wo
  cases H
  refine et (λhq=>?_)
  cases hq
  refine wI ?_
  exact wo
 cases H
 refine bO (wS 213 210) ?_
 refine bO (wS 214 211) ?_
 refine bO (wS 215 212) ?_
 refine bO (wS 216 213) ?_
 refine bO (wS 218 214) ?_
 exact cV
def iW (a0:Int) (a1:aR):Option Bool:=
 aaC (rx a0 a1) λr1=>some (eqB a1.tL r1)
theorem mt {a0:Int} {a1:aR} {r:Bool} (H:iW a0 a1=some r):Fn prog 164 [aI a0,.agg (dY a1)] [.c (.d (.b r))]:=by
 refine fI func164 ntmps164 ?_
 refine dI ?_
 refine aa H λr1 q1 H=>dA (ca (hF:=zL q1)) ?_
 refine wI ?_
 exact ao H
def qw (a0:Int) (a1:aK):Option Bool:=
 aaC (mq a1.cj) λr1=>aaC (bif r1 then(bif eqB a1.cj.ea 1 then(aaC (qH a0 a1.aF) λr3=>aaC (uV r3 a1.cj) λr4=>some r4) else(some false)) else(some false)) λ(v2:Bool)=>some v2
theorem wF {a0:Int} {a1:aK} {r:Bool} (H:qw a0 a1=some r):Fn prog 163 [aI a0,.agg (d5 a1)] [.c (.d (.b r))]:=by
 refine fI func163 ntmps163 ?_
 refine dI ?_
 refine aa H λr1 q1 H=>dA (ca (hF:=zE q1)) ?_
 refine aa H λv2 Hj H=>jt ⟨[(4,tB v2)],[],0⟩ ?_ ?_
 .have H:=Hj
  refine wI ?_
  refine dC H ?_ ?_<;>intro H
  .refine dC H ?_ ?_<;>intro H
   .refine aa H λr3 q3 H=>dG (ca (hF:=sE q3)) ?_
    refine aa H λr4 q4 H=>dG (ca (hF:=HS q4)) ?_
    refine wI ?_
    exact ai H
   refine wI ?_
   exact ai H
  refine wI ?_
  exact ai H
 refine wI ?_
 exact ao H
def lA (a0:aw) (a1:aR):Option bg:=
 aaC (lG a0.cZ a1.cO) λr1=>bif !eqB r1.2.Code 0 then(aaC (cm a0 []) λr2=>some r2) else(aaC (cm {a0 with cZ:=r1.1,ag:=a1.ag,aV:=r1.2.C6} [(⟨3,a0.aE,a1.ag,0,r1.2.xW,c7,0⟩:aR)]) λr3=>some r3)
theorem yK {a0:aw} {a1:aR} {r:bg} (H:lA a0 a1=some r):Fn prog 293 [.agg (dq a0),.agg (dY a1)] [.agg (qM [.o,.o,.o] (cM r))]:=by
 refine fI func293 ntmps293 ?_
 refine aa H λr1 q1 H=>nA (ca (hF:=vS q1)) ?_
 refine cC H ?_ ?_<;>intro H
 .refine aa H λr2 q2 H=>nA (ca (hF:=cN q2)) ?_
  exact ao H
 refine aa H λr3 q3 H=>nA (ca (hF:=cN q3)) ?_
 exact ao H
end Go.AM
