/- A part. -/
import Derived.Test.YtbfpkbncbebapaaGreatS2
set_option linter.unusedVariables false
open Option renaming bind->YL
open List renaming range->hV
namespace Go.AM
open Go.Proofs
open Tryz
attribute [local irreducible] AWN NS AWO AWR AWC DR dQ gQ
set_option maxRecDepth 100000
set_option maxHeartbeats 40000000
def im (a0:aT) (a1:Int):Option (Bool×aT):=
 YL (co a0 a1) λr1=>some (eqB r1.1 0,r1.2)
theorem ia {a0:aT} {a1:Int} {r:Bool×aT} (H:im a0 a1=some r):FnW prog 141 (.var 148 (kM [.f] (bS a0))) [tP 200,tI a1] (.var 148 (kM [.f] (bS r.2))) [.c (.d (.b r.1))]:=by
 refine fW func141 ntmps141 ?_
 refine aa H λr1 q1 H=>sA (cw (o:=200) (bU q1)) ?_
 cases H
 exact fo
def ei (a0:aG):Option Bool:=
 YL (fY a0.ID) λr1=>YL (bif r1 then(YL (gD a0.eP) λr3=>bif r3 then(YL (cO a0.cV 0 999999) λr4=>some r4) else(some false)) else(some false)) λ(v2:Bool)=>some v2
theorem gU {a0:aG} {r:Bool} (H:ei a0=some r):Fn prog 268 [.agg (cA a0)] [.c (.d (.b r))]:=by
 refine fI func268 ntmps268 ?_
 refine aa H λr1 q1 H=>nA (ca (hF:=mX q1)) ?_
 refine aa H λv2 Hj H=>jR ⟨[(2,tB v2)],[],0⟩ ?_ ?_
 .refine gC Hj ?_ ?_<;>intro H
  .refine aa H λr3 q3 H=>nG (ca (hF:=iz q3)) ?_
   refine gC H ?_ ?_<;>intro H
   .refine aa H λr4 q4 H=>nG (ca (hF:=bT q4)) ?_
    exact ai H
   exact ai H
  exact ai H
 exact ao H
def yZ (a0:aT):Option (Int×aT):=
 YL (co a0 6) λr1=>some (WR (100+r1.1),r1.2)
theorem Ko {a0:aT} {r:Int×aT} (H:yZ a0=some r):FnW prog 214 (.var 148 (kM [.f] (bS a0))) [tP 200] (.var 148 (kM [.f] (bS r.2))) [.c (.d (.i .i64 r.1))]:=by
 refine fW func214 ntmps214 ?_
 refine aa H λr1 q1 H=>sA (cw (o:=200) (bU q1)) ?_
 cases H
 exact fo
def ip (a0:ah):Option ah:=
 YL (tW a0.g7) λr1=>YL (qP a0.aA) λr2=>YL (lV a0.aw) λr3=>some {a0 with g7:=r1,aA:=r2,aw:=r3}
theorem gW {a0:ah} {r:ah} (H:ip a0=some r):Fn prog 215 [.agg (bB a0)] [.agg (qM [.o,.o,.o] (b8 r))]:=by
 refine fI func215 ntmps215 ?_
 refine aa H λr1 q1 H=>nA (ca (hF:=Ey q1)) ?_
 refine aa H λr2 q2 H=>nA (ca (hF:=Ap q2)) ?_
 refine aa H λr3 q3 H=>nA (ca (hF:=kN q3)) ?_
 exact ao H
def jy (a0:aD):Option aD:=
 YL (wM a0.bI) λr1=>some {a0 with bI:=r1}
theorem jh {a0:aD} {r:aD} (H:jy a0=some r):Fn prog 218 [.agg (cI a0)] [.agg (qM [.o,.o] (db r))]:=by
 refine fI func218 ntmps218 ?_
 refine aa H λr1 q1 H=>nA (ca (hF:=Ev q1)) ?_
 exact ao H
def fC (a0:ab) (a1:bD):Option ab:=
 bif leB 200 (a0.aN.length:Int) then(some {a0 with kT:=WR (a0.kT+1)}) else(YL (qV a1) λr1=>bif dh 176 (a0.aN++[r1]).length then(some {a0 with aN:=(a0.aN++[r1])}) else none)
theorem qX {a0:ab} {a1:bD} {r:ab} (H:fC a0 a1=some r):FnV prog 143 (nS a0) [tP 200,.v (.agg (kM [.t] (lf a1)))] (nS r) (.tup []) []:=by
 refine fV func143 ntmps143 ?_
 refine cC H ?_ ?_<;>intro H
 .cases H
  exact bO
 refine Tn 0 18 0 [1,2,3,4,5,6,7,8,9,10,11] Try.follows (by kernel_rfl) (by kernel_rfl) rfl (by kernel_rfl) rfl rfl ?_
 refine wI ?_
 refine aa H λr1 q1 H=>zA (ca (hF:=(Ax q1).frzs (by repeat (first|exact trivial|refine⟨?_,?_⟩|exact lm _|rfl)))) ?_
 obtain⟨h,H⟩:=rq H
 refine zB bW (hP rfl (B4 (enc:=dv) (ys:=a0.aN) (zs:=[r1]) h (by first|exact List.cons_ne_nil _ _|simp) rfl (λ_=>rfl) (by first|rfl|simp) (.w rfl (by first|rfl|exact lm _|simp)) rfl rfl rfl rfl rfl rfl rfl rfl rfl rfl)) bW ?_
 refine wA (spx 100084) ?_
 cases H
 refine bV ((dS 193)) ?_
 exact vI
def mZ (a0:me):Option Bool:=
 YL (fY a0.ID) λr1=>YL (bif r1 then(YL (gD a0.eP) λr3=>bif r3 then(YL (cO a0.dM 0 999999) λr4=>some r4) else(some false)) else(some false)) λ(v2:Bool)=>some v2
theorem wq {a0:me} {r:Bool} (H:mZ a0=some r):Fn prog 266 [.agg (Hb a0)] [.c (.d (.b r))]:=by
 refine fI func266 ntmps266 ?_
 refine aa H λr1 q1 H=>nA (ca (hF:=mX q1)) ?_
 refine aa H λv2 Hj H=>jR ⟨[(2,tB v2)],[],0⟩ ?_ ?_
 .refine gC Hj ?_ ?_<;>intro H
  .refine aa H λr3 q3 H=>nG (ca (hF:=iz q3)) ?_
   refine gC H ?_ ?_<;>intro H
   .refine aa H λr4 q4 H=>nG (ca (hF:=bT q4)) ?_
    exact ai H
   exact ai H
  exact ai H
 exact ao H
def ju (a0:cT):Option Int:=
 YL (gE a0) λr1=>bif !r1 then(some 0) else(some (WR (a0.cH-a0.ed)))
theorem sh {a0:cT} {r:Int} (H:ju a0=some r):Fn prog 79 [.agg (pG a0)] [.c (.d (.i .i64 r))]:=by
 refine fI func79 ntmps79 ?_
 refine aa H λr1 q1 H=>nA (ca (hF:=jr q1)) ?_
 refine cC H ?_ ?_<;>intro H
 .exact ao H
 exact ao H
def eY (a0:am) (a1:cT):Option Bool:=
 YL (gr a0) λr1=>YL (bif r1 then(YL (gE a1) λr3=>bif r3 then(YL (nm a0 a1.ax) λr4=>some (eqB r4 a1.cH)) else(some false)) else(some false)) λ(v2:Bool)=>some v2
theorem jf {a0:am} {a1:cT} {r:Bool} (H:eY a0 a1=some r):Fn prog 206 [.agg (cp a0),.agg (pG a1)] [.c (.d (.b r))]:=by
 refine fI func206 ntmps206 ?_
 refine dI ?_
 refine aa H λr1 q1 H=>dA (ca (hF:=jU q1)) ?_
 refine aa H λv2 Hj H=>et ⟨[(4,tB v2)],[],0⟩ ?_ ?_
 .have H:=Hj
  refine wI ?_
  refine dC H ?_ ?_<;>intro H
  .refine aa H λr3 q3 H=>dG (ca (hF:=jr q3)) ?_
   refine dC H ?_ ?_<;>intro H
   .refine aa H λr4 q4 H=>dG (ca (hF:=wz q4)) ?_
    refine wI ?_
    exact ai H
   refine wI ?_
   exact ai H
  refine wI ?_
  exact ai H
 refine wI ?_
 exact ao H
def rR (a0:aC) (a1:aC):Option Bool:=
 YL (bif eqB a0.ag a1.ag then(bif eqB a0.a9 a1.a9 then(YL (s8 a0.bp a1.bp) λr2=>some r2) else(some false)) else(some false)) λ(v1:Bool)=>some v1
theorem Fl {a0:aC} {a1:aC} {r:Bool} (H:rR a0 a1=some r):Fn prog 166 [.agg (dR a0),.agg (dR a1)] [.c (.d (.b r))]:=by
 refine fI func166 ntmps166 ?_
 refine aa H λv1 Hj H=>jR ⟨[(4,tB v1)],[],0⟩ ?_ ?_
 .refine gC Hj ?_ ?_<;>intro H
  .refine gC H ?_ ?_<;>intro H
   .refine aa H λr2 q2 H=>nG (ca (hF:=Ci q2)) ?_
    exact ai H
   exact ai H
  exact ai H
 exact ao H
def wm (a0:List Int):(Int×Int)->Option (cf (Int×Int) (Int))
 |(v1,v2)=>bif ltB v2 (a0.length:Int) then(YL (ix a0 v2) λx6=>YL (Fp x6 2147483647) λr7=>some (.next (Int.tmod (WR ((WR ((WR (v1*1000003))+r7))+13)) 2147483647,WR (v2+1)))) else(some (.done v1))
def NB (a0:List Int):Option Int:=
 YL (iter (wm a0) FU (11,0)) λ(v5:Int)=>some v5
theorem Ux {a0:List Int} {r:Int} (H:NB a0=some r):Fn prog 258 [aL (a0.map eI)] [.c (.d (.i .i64 r))]:=by
 refine fI func258 ntmps258 ?_
 refine aa H λv5 Hj H=>jB ⟨[(3,tI v5)],[],0⟩ ?_ ?_
 .refine iT Hj (λq=>⟨[(0,.v (.c (.d false (.l (a0.map eI))))),(3,tI q.1),(4,tI q.2)],[],0⟩) ?_
  rintro⟨v1,v2⟩ o H
  try dsimp only
  refine wI ?_
  refine cC H ?_ ?_<;>intro H
  .refine aa H λx6 hx6 H=>nA (xdT (enc:=eI) hx6) ?_
   refine aa H λr7 q7 H=>nA (ca (hF:=yL q7)) ?_
   refine nA (ir rfl rfl rfl (by decide)) ?_
   cases H
   refine dy ?_
   exact wo
  cases H
  refine dF (λhq=>?_)
  cases hq
  refine wI ?_
  exact wo
 exact ao H
def yV (a0:aT) (a1:List Int):Option (Int×aT):=
 YL (co a0 (a1.length:Int)) λr1=>YL (ix a1 r1.1) λx2=>some (x2,r1.2)
theorem Ar {a0:aT} {a1:List Int} {r:Int×aT} (H:yV a0 a1=some r):FnW prog 360 (.var 148 (kM [.f] (bS a0))) [tP 200,.v (.c (.d false (.l (a1.map eI))))] (.var 148 (kM [.f] (bS r.2))) [.c (.d (.i .i64 r.1))]:=by
 refine fW func360 ntmps360 ?_
 refine aa H λr1 q1 H=>sA (cw (o:=200) (bU q1)) ?_
 refine aa H λx2 hx2 H=>nA (xdT (enc:=eI) hx2) ?_
 cases H
 exact fo
def HT (a0:am) (a1:Int) (a2:Int):Option (am×Bool):=
 YL (lA a0) λr1=>YL (gr a0) λr2=>YL (bif !r2 then(some true) else(YL (nm a0 a1) λr4=>YL (cO a2 0 r4) λr5=>some (!r5))) λ(v3:Bool)=>bif v3 then(some (r1,false)) else(YL (bif ltB 0 a2 then(YL (oT a0 a1) λr9=>YL (CD a0.aq r9 a2) λr10=>some {r1 with er:=WR (a0.er+a2),aq:=r10}) else(some r1)) λ(v8:am)=>some (v8,true))
theorem RT {a0:am} {a1:Int} {a2:Int} {r:am×Bool} (H:HT a0 a1 a2=some r):Fn prog 361 [.agg (cp a0),aI a1,aI a2] [.agg (qM [.o] (cG r.1)),.c (.d (.b r.2))]:=by
 refine fI func361 ntmps361 ?_
 refine aa H λr1 q1 H=>nA (ca (hF:=lU q1)) ?_
 refine aa H λr2 q2 H=>nA (ca (hF:=jU q2)) ?_
 refine aa H λv3 Hj H=>jR ⟨[(1,tI a1),(2,tI a2),(3,tP 0),(6,tP 1),(8,tP 3),(21,tB v3)],(oM [.w 2] 3 89 (cG r1)++[(0,.var 89 (kM [.f] (cG a0))),(1,.var 89 (kM [.z] (cG kP)))]),4⟩ ?_ ?_
 .refine gC Hj ?_ ?_<;>intro H
  .exact ai H
  refine aa H λr4 q4 H=>nG (ca (hF:=wz q4)) ?_
  refine aa H λr5 q5 H=>nG (ca (hF:=bT q5)) ?_
  exact ai H
 refine cC H ?_ ?_<;>intro H
 .exact ao H
 refine aa H λv8 Hj H=>jA ⟨[(6,tP 1),(8,tP 3)],(oM [.w 4] 3 89 (cG v8)++[(1,.var 89 (kM [.z] (cG kP)))]),5⟩ ?_ ?_
 .refine cC Hj ?_ ?_<;>intro H
  .refine zI (hV 9) ?_
   refine aa H λr9 q9 H=>zA (ca (hF:=yU q9)) ?_
   refine aa H λr10 q10 H=>zA (ca (hF:=Pb q10)) ?_
   refine wA (spx 100340) ?_
   exact ai H
  cases H
  refine ay (AG (nx':=5) rfl) ?_
  refine ay (wS 4 2) ?_
  exact wo
 exact ao H
def sq (a0:cP) (a1:aM):Option (cP×List Int):=
 bif ltB 0 a0.f5 then(some ({a0 with f5:=WR (a0.f5-1)},([]:List Int))) else(YL (bif ltB a0.eM 4 then(some (WR (a0.eM+1))) else(some 1)) λ(v1:Int)=>YL (pX a1 a0.fB v1) λr2=>some ((⟨a0.fB,v1,3⟩:cP),r2))
theorem Fu {a0:cP} {a1:aM} {r:cP×List Int} (H:sq a0 a1=some r):Fn prog 362 [.agg (sW a0),.agg (gI a1)] [.agg (qM [] (lg r.1)),.c (.own 3 1 (r.2.map eI) r.2.length)]:=by
 refine fI func362 ntmps362 ?_
 refine cC H ?_ ?_<;>intro H
 .exact ao H
 refine aa H λv1 Hj H=>jA ⟨[(2,tP 0),(3,tP 1),(4,tP 2),(6,tP 3)],[(0,.var 61 (kM [] (lg a0))),(1,.var 26 [.d false (.l (a1.aR.map cQ))]),(2,.var 61 (kM [] (lg fk))),(3,.var 61 (kM [] (lg {a0 with eM:=v1})))],4⟩ ?_ ?_
 .refine cC Hj ?_ ?_<;>intro H
  .exact ai H
  exact ai H
 refine zI (hV 9) ?_
 refine aa H λr2 q2 H=>zA (ca (hF:=Ea q2)) ?_
 refine wA (spx 100350) ?_
 exact ao H
def Ac (a0:am) (a1:Int) (a2:Int):Option (am×Int):=
 YL (lA a0) λr1=>YL (gr a0) λr2=>YL (bif !r2 then(some true) else(bif ltB a1 0 then(some true) else(YL (cO a2 1 100000) λr4=>bif !r4 then(some true) else(bif eqB a0.bQ 0 then(some true) else(bif leB 8 (a0.aq.length:Int) then(YL (oT a0 a1) λr5=>some (ltB r5 0)) else(some false)))))) λ(v3:Bool)=>bif v3 then(some (r1,0)) else(YL (yK a2 a0.bQ) λr6=>YL (CC a0.aq a1 r6) λr7=>some ({r1 with bQ:=WR (a0.bQ-r6),aq:=r7},r6))
theorem LJ {a0:am} {a1:Int} {a2:Int} {r:am×Int} (H:Ac a0 a1 a2=some r):Fn prog 390 [.agg (cp a0),aI a1,aI a2] [.agg (qM [.o] (cG r.1)),.c (.d (.i .i64 r.2))]:=by
 refine fI func390 ntmps390 ?_
 refine aa H λr1 q1 H=>nA (ca (hF:=lU q1)) ?_
 refine aa H λr2 q2 H=>nA (ca (hF:=jU q2)) ?_
 refine aa H λv3 Hj H=>jR ⟨[(1,tI a1),(2,tI a2),(3,tP 0),(6,tP 1),(8,tP 3),(39,tB v3)],(oM [.w 2] 3 89 (cG r1)++[(0,.var 89 (kM [.f] (cG a0))),(1,.var 89 (kM [.z] (cG kP)))]),4⟩ ?_ ?_
 .refine gC Hj ?_ ?_<;>intro H
  .exact ai H
  refine gC H ?_ ?_<;>intro H
  .exact ai H
  refine aa H λr4 q4 H=>nG (ca (hF:=bT q4)) ?_
  refine gC H ?_ ?_<;>intro H
  .exact ai H
  refine gC H ?_ ?_<;>intro H
  .exact ai H
  refine gC H ?_ ?_<;>intro H
  .refine aa H λr5 q5 H=>nG (ca (hF:=yU q5)) ?_
   exact ai H
  exact ai H
 refine cC H ?_ ?_<;>intro H
 .exact ao H
 refine aa H λr6 q6 H=>nA (ca (hF:=wu q6)) ?_
 refine aa H λr7 q7 H=>nA (ca (hF:=Pa q7)) ?_
 exact ao H
def oQ (a0:aX) (a1:List Int):Option (aX×ae×Bool):=
 YL (lV a0) λr1=>bif dh 1 (([]:List Int)++a1).length then(bif dh 1 (([]:List Int)++a1).length then(bif dh 32 (r1.az++[(⟨a0.bz,(([]:List Int)++a1)⟩:ae)]).length then(YL (ko (⟨WR (a0.bz+1),(r1.az++[(⟨a0.bz,(([]:List Int)++a1)⟩:ae)])⟩:aX)) λr2=>bif !r2 then(YL (lV a0) λr3=>some (r3,fa,false)) else(some ((⟨WR (a0.bz+1),(r1.az++[(⟨a0.bz,(([]:List Int)++a1)⟩:ae)])⟩:aX),(⟨a0.bz,(([]:List Int)++a1)⟩:ae),true))) else none) else none) else none
theorem Ei {a0:aX} {a1:List Int} {r:aX×ae×Bool} (H:oQ a0 a1=some r) (hflag:r.2.2=true):Fn prog 366 [.agg (gz a0),aL (a1.map eU8)] [.agg (qM [.o] (dY r.1)),.agg (qM [.o] (eh r.2.1)),.c (.d (.b r.2.2))]:=by
 refine fI func366 ntmps366 ?_
 refine aa H λr1 q1 H=>nA (ca (hF:=kN q1)) ?_
 refine zI [0,1,2,3,6,4,5,7] ?_
 obtain⟨h,H⟩:=rq H
 refine wA (EU (enc:=eU8) (ys:=([]:List Int)) (zs:=a1) [5] h) ?_
 refine wA (spx 100390) ?_
 refine lD (ds:=[5]) (by kernel_rfl) (by kernel_rfl) rfl ?_
 refine wI ?_
 refine zI (hV 12) ?_
 obtain⟨h,H⟩:=rq H
 refine wA (FG (enc:=eU8) (ys:=([]:List Int)) (zs:=a1) [8] h) ?_
 obtain⟨h,H⟩:=rq H
 refine uf (ds:=[8]) (by kernel_rfl) (by kernel_rfl) rfl (by kernel_rfl) bW (hP rfl (apT (enc:=av) (ys:=r1.az) (zs:=[(⟨a0.bz,(([]:List Int)++a1)⟩:ae)]) h)) bW rfl ?_
 refine wI ?_
 refine wA (spx 100389) ?_
 refine aa H λr2 q2 H=>nA (ca (hF:=n9 q2)) ?_
 refine cC H ?_ ?_<;>intro H
 .refine aa H λr3 q3 H=>nA (ca (hF:=kN q3)) ?_
  cases H
  cases hflag
 refine zI (hV 5) ?_
 refine wA (spx 100388) ?_
 refine wA (spx 100387) ?_
 exact ao H
theorem Eh {a0:aX} {a1:List Int} {r:aX×ae×Bool} (H:oQ a0 a1=some r) (hflag:r.2.2=false):Fn prog 366 [.agg (gz a0),aL (a1.map eU8)] [.agg (qM [.o] (dY r.1)),.agg (qM [.z] (eh r.2.1)),.c (.d (.b r.2.2))]:=by
 refine fI func366 ntmps366 ?_
 refine aa H λr1 q1 H=>nA (ca (hF:=kN q1)) ?_
 refine zI [0,1,2,3,6,4,5,7] ?_
 obtain⟨h,H⟩:=rq H
 refine wA (EU (enc:=eU8) (ys:=([]:List Int)) (zs:=a1) [5] h) ?_
 refine wA (spx 100394) ?_
 refine lD (ds:=[5]) (by kernel_rfl) (by kernel_rfl) rfl ?_
 refine wI ?_
 refine zI (hV 12) ?_
 obtain⟨h,H⟩:=rq H
 refine wA (FG (enc:=eU8) (ys:=([]:List Int)) (zs:=a1) [8] h) ?_
 obtain⟨h,H⟩:=rq H
 refine uf (ds:=[8]) (by kernel_rfl) (by kernel_rfl) rfl (by kernel_rfl) bW (hP rfl (apT (enc:=av) (ys:=r1.az) (zs:=[(⟨a0.bz,(([]:List Int)++a1)⟩:ae)]) h)) bW rfl ?_
 refine wI ?_
 refine wA (spx 100393) ?_
 refine aa H λr2 q2 H=>nA (ca (hF:=n9 q2)) ?_
 refine cC H ?_ ?_<;>intro H
 .refine aa H λr3 q3 H=>nA (ca (hF:=kN q3)) ?_
  exact ao H
 refine zI (hV 5) ?_
 refine wA (spx 100392) ?_
 refine wA (spx 100391) ?_
 cases H
 cases hflag
def fU (a0:aX) (a1:Int):(Int×List ae)->Option (cf (Int×List ae) (List ae))
 |(v2,v3)=>bif ltB v2 (a0.az.length:Int) then(YL (ix a0.az v2) λx9=>YL (bif leB a1 x9.cV then(YL (ix a0.az v2) λx11=>YL (ix a0.az v2) λx12=>bif dh 1 (([]:List Int)++x12.aS).length then(bif dh 32 (v3++[(⟨x11.cV,(([]:List Int)++x12.aS)⟩:ae)]).length then(some (v3++[(⟨x11.cV,(([]:List Int)++x12.aS)⟩:ae)])) else none) else none) else(some v3)) λ(v10:List ae)=>some (.next (WR (v2+1),v10))) else(some (.done v3))
def jT (a0:aX) (a1:Int):Option aX:=
 YL (lV a0) λr1=>bif ltB a0.bz a1 then(some r1) else(YL (iter (fU a0 a1) FU (0,([]:List ae))) λ(v8:List ae)=>some (⟨r1.bz,v8⟩:aX))
theorem xP {a0:aX} {a1:Int} {r:aX} (H:jT a0 a1=some r):Fn prog 384 [.agg (gz a0),aI a1] [.agg (qM [.o] (dY r))]:=by
 refine fI func384 ntmps384 ?_
 refine aa H λr1 q1 H=>nA (ca (hF:=kN q1)) ?_
 refine cC H ?_ ?_<;>intro H
 .exact ao H
 refine aa H λv8 Hj H=>jB ⟨[(4,tP 1),(5,tP 3)],(oM [.w 4] 3 65 (dY (⟨r1.bz,v8⟩:aX))++[(1,.var 65 (kM [.z] (dY p8)))]),5⟩ ?_ ?_
 .refine iT Hj (λq=>⟨[(1,tI a1),(2,tP 0),(4,tP 1),(5,tP 3),(6,tI q.1)],(oM [.w 4] 3 65 (dY (⟨r1.bz,q.2⟩:aX))++[(0,.var 65 (kM [.f] (dY a0))),(1,.var 65 (kM [.z] (dY p8)))]),5⟩) ?_ (by refine ay (wB 4 (([]:List ae).length)) ?_;exact wo)
  rintro⟨v2,v3⟩ o H
  try dsimp only
  refine wI ?_
  refine cC H ?_ ?_<;>intro H
  .refine aa H λx9 hx9 H=>nA (xdT (enc:=av) hx9) ?_
   refine aa H λv10 Hj H=>jA ⟨[(1,tI a1),(2,tP 0),(4,tP 1),(5,tP 3),(6,tI v2)],(oM [.w 4] 3 65 (dY (⟨r1.bz,v10⟩:aX))++[(0,.var 65 (kM [.f] (dY a0))),(1,.var 65 (kM [.z] (dY p8)))]),5⟩ ?_ ?_
   .refine cC Hj ?_ ?_<;>intro H
    .refine zI (hV 21) ?_
     refine aa H λx11 hx11 H=>zA (xdT (enc:=av) hx11) ?_
     refine aa H λx12 hx12 H=>zA (xdT (enc:=av) hx12) ?_
     obtain⟨h,H⟩:=rq H
     refine wA (FG (enc:=eU8) (ys:=([]:List Int)) (zs:=x12.aS) [5] h) ?_
     obtain⟨h,H⟩:=rq H
     refine uf (ds:=[5]) (by kernel_rfl) (by kernel_rfl) rfl (by kernel_rfl) bW (hP rfl (apT (enc:=av) (ys:=v3) (zs:=[(⟨x11.cV,(([]:List Int)++x12.aS)⟩:ae)]) h)) bW rfl ?_
     refine wI ?_
     refine wA (spx 100436) ?_
     exact ai H
    exact ai H
   cases H
   refine dy ?_
   exact wo
  cases H
  refine dF (λhq=>?_)
  cases hq
  refine wI ?_
  exact wo
 exact ao H
def ox (a0:cT) (a1:Int):Option (cT×Bool):=
 YL (gE a0) λr1=>YL (bif !r1 then(some true) else(YL (cO a1 0 (WR (a0.cH-a0.ed))) λr3=>some (!r3))) λ(v2:Bool)=>bif v2 then(some (a0,false)) else(some ({a0 with ed:=WR (a0.ed+a1)},true))
theorem Ch {a0:cT} {a1:Int} {r:cT×Bool} (H:ox a0 a1=some r):Fn prog 385 [.agg (pG a0),aI a1] [.agg (qM [] (rp r.1)),.c (.d (.b r.2))]:=by
 refine fI func385 ntmps385 ?_
 refine aa H λr1 q1 H=>nA (ca (hF:=jr q1)) ?_
 refine aa H λv2 Hj H=>jR ⟨[(1,tI a1),(2,tP 0),(4,tP 1),(19,tB v2)],[(0,.var 67 (kM [] (rp a0))),(1,.var 67 (kM [] (rp CI)))],2⟩ ?_ ?_
 .refine gC Hj ?_ ?_<;>intro H
  .exact ai H
  refine aa H λr3 q3 H=>nG (ca (hF:=bT q3)) ?_
  exact ai H
 refine cC H ?_ ?_<;>intro H
 .exact ao H
 exact ao H
end Go.AM
