/- A part. -/
import Derived.Test.YtmginjngmidkbaaGreatS1
set_option linter.unusedVariables false
open Option renaming bind->abU
open List renaming range->hV
namespace Go.AM
open Go.Proofs
open Tryz
attribute [local irreducible] AWN NS AWO AWR AWC DR ea gL
set_option maxRecDepth 100000
set_option maxHeartbeats 40000000
variable {a1:Int} {r:Bool}
def i9 (a0:bm) (a1:Int):Option (Bool×bm):=
 abU (cI a0 a1) λr1=>some (eqB r1.1 0,r1.2)
theorem iQ {a0:bm} {r:Bool×bm} (H:i9 a0 a1=some r):FnW prog 180 (.var 135 (kM [.f] (ci a0))) [tP 200,tI a1] (.var 135 (kM [.f] (ci r.2))) [.c (.d (.b r.1))]:=by
 refine fW func180 ntmps180 ?_
 refine aa H λr1 q1 H=>sA (cw (o:=200) (cp q1)) ?_
 cases H
 exact f4
def eN (a0:aP):Option Bool:=
 abU (gP a0.ID) λr1=>abU (bif r1 then(abU (im a0.eP) λr3=>bif r3 then(abU (dB a0.cV 0 999999) λr4=>some r4) else(some false)) else(some false)) λ(v2:Bool)=>some v2
theorem iH {a0:aP} (H:eN a0=some r):Fn prog 283 [.agg (cQ a0)] [.c (.d (.b r))]:=by
 refine fI func283 ntmps283 ?_
 refine aa H λr1 q1 H=>nA (ca (hF:=oL q1)) ?_
 refine aa H λv2 Hj H=>jR ⟨[(2,tB v2)],[],0⟩ ?_ ?_
 .refine gC Hj ?_ ?_<;>intro H
  .refine aa H λr3 q3 H=>nG (ca (hF:=jg q3)) ?_
   refine gC H ?_ ?_<;>intro H
   .refine aa H λr4 q4 H=>nG (ca (hF:=cm q4)) ?_
    exact ai H
   exact ai H
  exact ai H
 exact ao H
def Bt (a0:bm):Option (Int×bm):=
 abU (cI a0 6) λr1=>some (WR (100+r1.1),r1.2)
theorem Nr {a0:bm} {r:Int×bm} (H:Bt a0=some r):FnW prog 250 (.var 135 (kM [.f] (ci a0))) [tP 200] (.var 135 (kM [.f] (ci r.2))) [.c (.d (.i .i64 r.1))]:=by
 refine fW func250 ntmps250 ?_
 refine aa H λr1 q1 H=>sA (cw (o:=200) (cp q1)) ?_
 cases H
 exact f4
def ja (a0:ah):Option ah:=
 abU (vP a0.gF) λr1=>abU (s3 a0.aM) λr2=>abU (nn a0.ax) λr3=>some {a0 with gF:=r1,aM:=r2,ax:=r3}
theorem iK {a0:ah} {r:ah} (H:ja a0=some r):Fn prog 185 [.agg (bU a0)] [.agg (qM [.o,.o,.o] (ct r))]:=by
 refine fI func185 ntmps185 ?_
 refine aa H λr1 q1 H=>nA (ca (hF:=HH q1)) ?_
 refine aa H λr2 q2 H=>nA (ca (hF:=CK q2)) ?_
 refine aa H λr3 q3 H=>nA (ca (hF:=lU q3)) ?_
 exact ao H
def kv (a0:aJ):Option aJ:=
 abU (zn a0.bV) λr1=>some {a0 with bV:=r1}
theorem jV {a0:aJ} {r:aJ} (H:kv a0=some r):Fn prog 184 [.agg (cS a0)] [.agg (qM [.o,.o] (dt r))]:=by
 refine fI func184 ntmps184 ?_
 refine aa H λr1 q1 H=>nA (ca (hF:=HE q1)) ?_
 exact ao H
def gk (a0:ab) (a1:bF):Option ab:=
 bif leB 200 (a0.aK.length:Int) then(some {a0 with jr:=WR (a0.jr+1)}) else(abU (s9 a1) λr1=>bif c8 176 (a0.aK++[r1]).length then(some {a0 with aK:=(a0.aK++[r1])}) else none)
theorem tc {a0:ab} {a1:bF} {r:ab} (H:gk a0 a1=some r):FnV prog 182 (nS a0) [tP 200,.v (.agg (kM [.t] (jt a1)))] (nS r) (.tup []) []:=by
 refine fV func182 ntmps182 ?_
 refine cC H ?_ ?_<;>intro H
 .cases H
  exact cd
 refine Pw 0 18 0 [1,2,3,4,5,6,7,8,9,10,11] Try.follows (by kernel_rfl) (by kernel_rfl) rfl (by kernel_rfl) rfl rfl ?_
 refine wI ?_
 refine aa H λr1 q1 H=>zA (ca (hF:=(CR q1).frzs (by repeat (first|exact trivial|refine⟨?_,?_⟩|exact lm _|rfl)))) ?_
 obtain⟨h,H⟩:=rq H
 refine zB b8 (gG rfl (EI (enc:=dr) (ys:=a0.aK) (zs:=[r1]) h (by first|exact List.cons_ne_nil _ _|simp) rfl (λ_=>rfl) (by first|rfl|simp) (.w rfl (by first|rfl|exact lm _|simp)) rfl rfl rfl rfl rfl rfl rfl rfl rfl rfl)) b8 ?_
 refine wA (spx 100084) ?_
 cases H
 refine co ((ee 193)) ?_
 exact mn
def oO (a0:kZ):Option Bool:=
 abU (gP a0.ID) λr1=>abU (bif r1 then(abU (im a0.eP) λr3=>bif r3 then(abU (dB a0.dm 0 999999) λr4=>some r4) else(some false)) else(some false)) λ(v2:Bool)=>some v2
theorem y4 {a0:kZ} (H:oO a0=some r):Fn prog 281 [.agg (Ge a0)] [.c (.d (.b r))]:=by
 refine fI func281 ntmps281 ?_
 refine aa H λr1 q1 H=>nA (ca (hF:=oL q1)) ?_
 refine aa H λv2 Hj H=>jR ⟨[(2,tB v2)],[],0⟩ ?_ ?_
 .refine gC Hj ?_ ?_<;>intro H
  .refine aa H λr3 q3 H=>nG (ca (hF:=jg q3)) ?_
   refine gC H ?_ ?_<;>intro H
   .refine aa H λr4 q4 H=>nG (ca (hF:=cm q4)) ?_
    exact ai H
   exact ai H
  exact ai H
 exact ao H
def ks (a0:cX):Option Int:=
 abU (ip a0) λr1=>bif !r1 then(some 0) else(some (WR (a0.cG-a0.ev)))
theorem t9 {a0:cX} {r:Int} (H:ks a0=some r):Fn prog 79 [.agg (pK a0)] [.c (.d (.i .i64 r))]:=by
 refine fI func79 ntmps79 ?_
 refine aa H λr1 q1 H=>nA (ca (hF:=ko q1)) ?_
 exact ay H
def fT (a0:am) (a1:cX):Option Bool:=
 abU (g9 a0) λr1=>abU (bif r1 then(abU (ip a1) λr3=>bif r3 then(abU (oW a0 a1.aG) λr4=>some (eqB r4 a1.cG)) else(some false)) else(some false)) λ(v2:Bool)=>some v2
theorem jT {a0:am} {a1:cX} (H:fT a0 a1=some r):Fn prog 206 [.agg (cN a0),.agg (pK a1)] [.c (.d (.b r))]:=by
 refine fI func206 ntmps206 ?_
 refine dI ?_
 refine aa H λr1 q1 H=>dA (ca (hF:=kT q1)) ?_
 refine aa H λv2 Hj H=>fA ⟨[(4,tB v2)],[],0⟩ ?_ ?_
 .have H:=Hj
  refine wI ?_
  refine dC H ?_ ?_<;>intro H
  .refine aa H λr3 q3 H=>dG (ca (hF:=ko q3)) ?_
   refine dC H ?_ ?_<;>intro H
   .refine aa H λr4 q4 H=>dG (ca (hF:=zg q4)) ?_
    refine wI ?_
    exact ai H
   refine wI ?_
   exact ai H
  refine wI ?_
  exact ai H
 refine wI ?_
 exact ao H
def tR (a0:aA) (a1:aA):Option Bool:=
 abU (bif eqB a0.ag a1.ag then(bif eqB a0.aT a1.aT then(abU (uW a0.bz a1.bz) λr2=>some r2) else(some false)) else(some false)) λ(v1:Bool)=>some v1
theorem Iu {a0:aA} {a1:aA} (H:tR a0 a1=some r):Fn prog 123 [.agg (dH a0),.agg (dH a1)] [.c (.d (.b r))]:=by
 refine fI func123 ntmps123 ?_
 refine aa H λv1 Hj H=>jR ⟨[(4,tB v1)],[],0⟩ ?_ ?_
 .refine gC Hj ?_ ?_<;>intro H
  .refine gC H ?_ ?_<;>intro H
   .refine aa H λr2 q2 H=>nG (ca (hF:=E5 q2)) ?_
    exact ai H
   exact ai H
  exact ai H
 exact ao H
def kq (a0:bp):Option Bool:=
 abU (dB a0.cM 0 1) λr1=>abU (bif r1 then(abU (dB a0.fE 1 100000) λr3=>bif r3 then(bif leB (a0.bg.length:Int) 60 then(abU (dB a0.iM 0 2147483646) λr4=>some r4) else(some false)) else(some false)) else(some false)) λ(v2:Bool)=>some v2
theorem tU {a0:bp} (H:kq a0=some r):Fn prog 124 [.agg (eh a0)] [.c (.d (.b r))]:=by
 refine fI func124 ntmps124 ?_
 refine aa H λr1 q1 H=>nA (ca (hF:=cm q1)) ?_
 refine aa H λv2 Hj H=>jR ⟨[(2,tB v2)],[],0⟩ ?_ ?_
 .refine gC Hj ?_ ?_<;>intro H
  .refine aa H λr3 q3 H=>nG (ca (hF:=cm q3)) ?_
   refine gC H ?_ ?_<;>intro H
   .refine gC H ?_ ?_<;>intro H
    .refine aa H λr4 q4 H=>nG (ca (hF:=cm q4)) ?_
     exact ai H
    exact ai H
   exact ai H
  exact ai H
 exact ao H
def Iw (a0:Int) (a1:Int):Option Int:=
 abU (dB a1 1 1000000000000) λr1=>bif !r1 then(some 0) else(bif !eqB a1 0 then(bif !eqB a1 0 then(some (Int.tmod (WR ((Int.tmod a0 a1)+a1)) a1)) else none) else none)
theorem Bh {a0:Int} {r:Int} (H:Iw a0 a1=some r):Fn prog 292 [aI a0,aI a1] [.c (.d (.i .i64 r))]:=by
 refine fI func292 ntmps292 ?_
 refine aa H λr1 q1 H=>nA (ca (hF:=cm q1)) ?_
 refine cC H ?_ ?_<;>intro H
 .exact ao H
 obtain⟨h,H⟩:=rq H
 refine nA (ir rfl rfl rfl (ne0 h)) ?_
 obtain⟨h,H⟩:=rq H
 refine nA (ir rfl rfl rfl (ne0 h)) ?_
 exact ao H
def y3 (a0:List Int):(Int×Int)->Option (cq (Int×Int) (Int))
 |(v1,v2)=>bif ltB v2 (a0.length:Int) then(abU (ix a0 v2) λx6=>abU (Iw x6 2147483647) λr7=>some (.next (Int.tmod (WR ((WR ((WR (v1*1000003))+r7))+13)) 2147483647,WR (v2+1)))) else(some (.done v1))
def QL (a0:List Int):Option Int:=
 abU (iter (y3 a0) FU (11,0)) λ(v5:Int)=>some v5
theorem XE {a0:List Int} {r:Int} (H:QL a0=some r):Fn prog 294 [aL (a0.map eI)] [.c (.d (.i .i64 r))]:=by
 refine fI func294 ntmps294 ?_
 refine aa H λv5 Hj H=>jB ⟨[(3,tI v5)],[],0⟩ ?_ ?_
 .refine iT Hj (λq=>⟨[(0,.v (.c (.d false (.l (a0.map eI))))),(3,tI q.1),(4,tI q.2)],[],0⟩) ?_
  rintro⟨v1,v2⟩ o H
  refine ad ?_
  refine cC H ?_ ?_<;>intro H
  .refine aa H λx6 hx6 H=>nA (xdT (enc:=eI) hx6) ?_
   refine aa H λr7 q7 H=>nA (ca (hF:=Bh q7)) ?_
   refine nA (ir rfl rfl rfl (by decide)) ?_
   exact aN H
  exact aE H
 exact ao H
def Bp (a0:bm) (a1:List Int):Option (Int×bm):=
 abU (cI a0 (a1.length:Int)) λr1=>abU (ix a1 r1.1) λx2=>some (x2,r1.2)
theorem CL {a0:bm} {a1:List Int} {r:Int×bm} (H:Bp a0 a1=some r):FnW prog 344 (.var 135 (kM [.f] (ci a0))) [tP 200,.v (.c (.d false (.l (a1.map eI))))] (.var 135 (kM [.f] (ci r.2))) [.c (.d (.i .i64 r.1))]:=by
 refine fW func344 ntmps344 ?_
 refine aa H λr1 q1 H=>sA (cw (o:=200) (cp q1)) ?_
 refine aa H λx2 hx2 H=>nA (xdT (enc:=eI) hx2) ?_
 cases H
 exact f4
def K1 (a0:am) (a1:Int) (a2:Int):Option (am×Bool):=
 abU (mG a0) λr1=>abU (g9 a0) λr2=>abU (bif !r2 then(some true) else(abU (oW a0 a1) λr4=>abU (dB a2 0 r4) λr5=>some (!r5))) λ(v3:Bool)=>bif v3 then(some (r1,false)) else(abU (bif ltB 0 a2 then(abU (qv a0 a1) λr9=>abU (Fv a0.aj r9 a2) λr10=>some {r1 with eD:=WR (a0.eD+a2),aj:=r10}) else(some r1)) λ(v8:am)=>some (v8,true))
theorem Vs {a0:am} {a2:Int} {r:am×Bool} (H:K1 a0 a1 a2=some r):Fn prog 345 [.agg (cN a0),aI a1,aI a2] [.agg (qM [.o] (cZ r.1)),.c (.d (.b r.2))]:=by
 refine fI func345 ntmps345 ?_
 refine aa H λr1 q1 H=>nA (ca (hF:=nm q1)) ?_
 refine aa H λr2 q2 H=>nA (ca (hF:=kT q2)) ?_
 refine aa H λv3 Hj H=>jR ⟨[(1,tI a1),(2,tI a2),(3,tP 0),(6,tP 1),(8,tP 3),(21,tB v3)],(oM [.w 2] 3 57 (cZ r1)++[(0,.var 57 (kM [.f] (cZ a0))),(1,.var 57 (kM [.z] (cZ lW)))]),4⟩ ?_ ?_
 .refine gC Hj ?_ ?_<;>intro H
  .exact ai H
  refine aa H λr4 q4 H=>nG (ca (hF:=zg q4)) ?_
  refine aa H λr5 q5 H=>nG (ca (hF:=cm q5)) ?_
  exact ai H
 refine cC H ?_ ?_<;>intro H
 .exact ao H
 refine aa H λv8 Hj H=>jA ⟨[(6,tP 1),(8,tP 3)],(oM [.w 4] 3 57 (cZ v8)++[(1,.var 57 (kM [.z] (cZ lW)))]),5⟩ ?_ ?_
 .refine cC Hj ?_ ?_<;>intro H
  .refine zI (hV 9) ?_
   refine aa H λr9 q9 H=>zA (ca (hF:=Bo q9)) ?_
   refine aa H λr10 q10 H=>zA (ca (hF:=Sq q10)) ?_
   refine wA (spx 100340) ?_
   exact ai H
  cases H
  refine aq (CZ (nx':=5) rfl) ?_
  refine aq (wS 4 2) ?_
  exact wo
 exact ao H
def hO (a0:aS) (a2:Int):(Int×List Int)->Option (cq (Int×List Int) (List Int))
 |(v3,v4)=>abU (bif ltB v3 (a0.aX.length:Int) then(abU (dB a2 1 4) λr9=>some r9) else(some false)) λ(v8:Bool)=>bif v8 then(bif c8 8 (v4++[v3]).length then(some (.next (WR (v3+1),(v4++[v3])))) else none) else(some (.done v4))
def rH (a0:aS) (a1:Int) (a2:Int):Option (List Int):=
 abU (rE a0 a1) λr1=>abU (bif eqB a2 1 then(some (ltB 0 (r1.length:Int))) else(some false)) λ(v2:Bool)=>bif v2 then(some r1) else(abU (iter (hO a0 a2) FU (0,([]:List Int))) λ(v7:List Int)=>some v7)
theorem Hm {a0:aS} {a2:Int} {r:List Int} (H:rH a0 a1 a2=some r):Fn prog 364 [.agg (iw a0),aI a1,aI a2] [.c (.own 3 1 (r.map eI) r.length)]:=by
 refine fI func364 ntmps364 ?_
 refine aa H λr1 q1 H=>nA (ca (hF:=Hf q1)) ?_
 refine aa H λv2 Hj H=>jR ⟨[(2,tI a2),(3,tP 0),(7,.v (.c (.w 1 r1.length))),(19,tB v2)],[(0,.var 26 [.d false (.l (a0.aX.map dy))]),(1,w3 r1)],2⟩ ?_ ?_
 .exact az Hj
 refine cC H ?_ ?_<;>intro H
 .exact ao H
 refine aa H λv7 Hj H=>jB ⟨[(8,.v (.c (.w 2 v7.length)))],[(2,w3 v7)],3⟩ ?_ ?_
 .refine iT Hj (λq=>⟨[(2,tI a2),(3,tP 0),(8,.v (.c (.w 2 q.2.length))),(9,tI q.1)],[(0,.var 26 [.d false (.l (a0.aX.map dy))]),(2,w3 q.2)],3⟩) ?_
  rintro⟨v3,v4⟩ o H
  refine ad ?_
  refine aa H λv8 Hj H=>jR ⟨[(2,tI a2),(3,tP 0),(8,.v (.c (.w 2 v4.length))),(9,tI v3),(30,tB v8)],[(0,.var 26 [.d false (.l (a0.aX.map dy))]),(2,w3 v4)],3⟩ ?_ ?_
  .refine gC Hj ?_ ?_<;>intro H
   .refine aa H λr9 q9 H=>nG (ca (hF:=cm q9)) ?_
    exact ai H
   exact ai H
  refine cC H ?_ ?_<;>intro H
  .obtain⟨h,H⟩:=rq H
   refine sA (apT (enc:=eI) (ys:=v4) (zs:=[v3]) h) ?_
   exact aN H
  exact aE H
 exact ao H
def ud (a0:cR) (a1:aS):Option (cR×List Int):=
 bif ltB 0 a0.eU then(some ({a0 with eU:=WR (a0.eU-1)},([]:List Int))) else(abU (bif ltB a0.eQ 4 then(some (WR (a0.eQ+1))) else(some 1)) λ(v1:Int)=>abU (rH a1 a0.fJ v1) λr2=>some ((⟨a0.fJ,v1,3⟩:cR),r2))
theorem IB {a0:cR} {a1:aS} {r:cR×List Int} (H:ud a0 a1=some r):Fn prog 346 [.agg (uG a0),.agg (iw a1)] [.agg (qM [] (ml r.1)),.c (.own 3 1 (r.2.map eI) r.2.length)]:=by
 refine fI func346 ntmps346 ?_
 refine cC H ?_ ?_<;>intro H
 .exact ao H
 refine aa H λv1 Hj H=>jA ⟨[(2,tP 0),(3,tP 1),(4,tP 2),(6,tP 3)],[(0,.var 67 (kM [] (ml a0))),(1,.var 26 [.d false (.l (a1.aX.map dy))]),(2,.var 67 (kM [] (ml ec))),(3,.var 67 (kM [] (ml {a0 with eQ:=v1})))],4⟩ ?_ ?_
 .exact az Hj
 refine zI (hV 9) ?_
 refine aa H λr2 q2 H=>zA (ca (hF:=Hm q2)) ?_
 refine wA (spx 100350) ?_
 exact ao H
def oQ (a0:ah):Option Int:=
 abU (pH a0.ax.aw) λr1=>some r1
theorem Ap {a0:ah} {r:Int} (H:oQ a0=some r):Fn prog 366 [.agg (bU a0)] [.c (.d (.i .i64 r))]:=by
 refine fI func366 ntmps366 ?_
 refine aa H λr1 q1 H=>nA (ca (hF:=ui q1)) ?_
 exact ao H
def Cw (a0:am) (a1:Int) (a2:Int):Option (am×Int):=
 abU (mG a0) λr1=>abU (g9 a0) λr2=>abU (bif !r2 then(some true) else(bif ltB a1 0 then(some true) else(abU (dB a2 1 100000) λr4=>bif !r4 then(some true) else(bif eqB a0.bJ 0 then(some true) else(bif leB 8 (a0.aj.length:Int) then(abU (qv a0 a1) λr5=>some (ltB r5 0)) else(some false)))))) λ(v3:Bool)=>bif v3 then(some (r1,0)) else(abU (Hk a2 a0.bJ) λr6=>abU (Fu a0.aj a1 r6) λr7=>some ({r1 with bJ:=WR (a0.bJ-r6),aj:=r7},r6))
theorem OQ {a0:am} {a2:Int} {r:am×Int} (H:Cw a0 a1 a2=some r):Fn prog 377 [.agg (cN a0),aI a1,aI a2] [.agg (qM [.o] (cZ r.1)),.c (.d (.i .i64 r.2))]:=by
 refine fI func377 ntmps377 ?_
 refine aa H λr1 q1 H=>nA (ca (hF:=nm q1)) ?_
 refine aa H λr2 q2 H=>nA (ca (hF:=kT q2)) ?_
 refine aa H λv3 Hj H=>jR ⟨[(1,tI a1),(2,tI a2),(3,tP 0),(6,tP 1),(8,tP 3),(39,tB v3)],(oM [.w 2] 3 57 (cZ r1)++[(0,.var 57 (kM [.f] (cZ a0))),(1,.var 57 (kM [.z] (cZ lW)))]),4⟩ ?_ ?_
 .refine gC Hj ?_ ?_<;>intro H
  .exact ai H
  refine gC H ?_ ?_<;>intro H
  .exact ai H
  refine aa H λr4 q4 H=>nG (ca (hF:=cm q4)) ?_
  refine gC H ?_ ?_<;>intro H
  .exact ai H
  refine gC H ?_ ?_<;>intro H
  .exact ai H
  refine gC H ?_ ?_<;>intro H
  .refine aa H λr5 q5 H=>nG (ca (hF:=Bo q5)) ?_
   exact ai H
  exact ai H
 refine cC H ?_ ?_<;>intro H
 .exact ao H
 refine aa H λr6 q6 H=>nA (ca (hF:=DM q6)) ?_
 refine aa H λr7 q7 H=>nA (ca (hF:=Sp q7)) ?_
 exact ao H
def qs (a0:aY) (a1:List Int):Option (aY×ae×Bool):=
 abU (nn a0) λr1=>bif c8 1 (([]:List Int)++a1).length then(bif c8 1 (([]:List Int)++a1).length then(bif c8 32 (r1.aw++[(⟨a0.bB,(([]:List Int)++a1)⟩:ae)]).length then(abU (lC (⟨WR (a0.bB+1),(r1.aw++[(⟨a0.bB,(([]:List Int)++a1)⟩:ae)])⟩:aY)) λr2=>bif !r2 then(abU (nn a0) λr3=>some (r3,bP,false)) else(some ((⟨WR (a0.bB+1),(r1.aw++[(⟨a0.bB,(([]:List Int)++a1)⟩:ae)])⟩:aY),(⟨a0.bB,(([]:List Int)++a1)⟩:ae),true))) else none) else none) else none
theorem Ht {a0:aY} {a1:List Int} {r:aY×ae×Bool} (H:qs a0 a1=some r) (hflag:r.2.2=true):Fn prog 350 [.agg (gz a0),aL (a1.map eU8)] [.agg (qM [.o] (dE r.1)),.agg (qM [.o] (di r.2.1)),.c (.d (.b r.2.2))]:=by
 refine fI func350 ntmps350 ?_
 refine aa H λr1 q1 H=>nA (ca (hF:=lU q1)) ?_
 refine zI [0,1,2,3,6,4,5,7] ?_
 obtain⟨h,H⟩:=rq H
 refine wA (H5 (enc:=eU8) (ys:=([]:List Int)) (zs:=a1) [5] h) ?_
 refine wA (spx 100390) ?_
 refine mK (ds:=[5]) (by kernel_rfl) (by kernel_rfl) rfl ?_
 refine wI ?_
 refine zI (hV 12) ?_
 obtain⟨h,H⟩:=rq H
 refine wA (IM (enc:=eU8) (ys:=([]:List Int)) (zs:=a1) [8] h) ?_
 obtain⟨h,H⟩:=rq H
 refine wi (ds:=[8]) (by kernel_rfl) (by kernel_rfl) rfl (by kernel_rfl) b8 (gG rfl (apT (enc:=an) (ys:=r1.aw) (zs:=[(⟨a0.bB,(([]:List Int)++a1)⟩:ae)]) h)) b8 rfl ?_
 refine wI ?_
 refine wA (spx 100389) ?_
 refine aa H λr2 q2 H=>nA (ca (hF:=pE q2)) ?_
 refine cC H ?_ ?_<;>intro H
 .refine aa H λr3 q3 H=>nA (ca (hF:=lU q3)) ?_
  cases H
  cases hflag
 refine zI (hV 5) ?_
 refine wA (spx 100388) ?_
 refine wA (spx 100387) ?_
 exact ao H
theorem Hs {a0:aY} {a1:List Int} {r:aY×ae×Bool} (H:qs a0 a1=some r) (hflag:r.2.2=false):Fn prog 350 [.agg (gz a0),aL (a1.map eU8)] [.agg (qM [.o] (dE r.1)),.agg (qM [.z] (di r.2.1)),.c (.d (.b r.2.2))]:=by
 refine fI func350 ntmps350 ?_
 refine aa H λr1 q1 H=>nA (ca (hF:=lU q1)) ?_
 refine zI [0,1,2,3,6,4,5,7] ?_
 obtain⟨h,H⟩:=rq H
 refine wA (H5 (enc:=eU8) (ys:=([]:List Int)) (zs:=a1) [5] h) ?_
 refine wA (spx 100394) ?_
 refine mK (ds:=[5]) (by kernel_rfl) (by kernel_rfl) rfl ?_
 refine wI ?_
 refine zI (hV 12) ?_
 obtain⟨h,H⟩:=rq H
 refine wA (IM (enc:=eU8) (ys:=([]:List Int)) (zs:=a1) [8] h) ?_
 obtain⟨h,H⟩:=rq H
 refine wi (ds:=[8]) (by kernel_rfl) (by kernel_rfl) rfl (by kernel_rfl) b8 (gG rfl (apT (enc:=an) (ys:=r1.aw) (zs:=[(⟨a0.bB,(([]:List Int)++a1)⟩:ae)]) h)) b8 rfl ?_
 refine wI ?_
 refine wA (spx 100393) ?_
 refine aa H λr2 q2 H=>nA (ca (hF:=pE q2)) ?_
 refine cC H ?_ ?_<;>intro H
 .refine aa H λr3 q3 H=>nA (ca (hF:=lU q3)) ?_
  exact ao H
 refine zI (hV 5) ?_
 refine wA (spx 100392) ?_
 refine wA (spx 100391) ?_
 cases H
 cases hflag
def vC (a0:ab) (a1:Int):Option Bool:=
 abU (Hk (a0.eo.aX.length:Int) 6) λr1=>abU (dB a1 0 (WR (r1-1))) λr2=>abU (bif r2 then(bif leB 0 a1 then(some (eqB (AT .i64 (FQ .i64 a0.dv a1) 1) 0)) else none) else(some false)) λ(v3:Bool)=>some v3
theorem Et {a0:ab} (H:vC a0 a1=some r):Fn prog 74 [.agg (iy a0),aI a1] [.c (.d (.b r))]:=by
 refine fI func74 ntmps74 ?_
 refine aa H λr1 q1 H=>nA (ca (hF:=DM q1)) ?_
 refine aa H λr2 q2 H=>nA (ca (hF:=cm q2)) ?_
 refine aa H λv3 Hj H=>jR ⟨[(4,tB v3)],[],0⟩ ?_ ?_
 .refine gC Hj ?_ ?_<;>intro H
  .obtain⟨h,H⟩:=rq H
   refine nG (Ig h rfl rfl rfl rfl) ?_
   exact ai H
  exact ai H
 exact ao H
def lD (a0:aD):Option Bool:=
 abU (dB a0.a8 1 8) λr1=>abU (bif r1 then(abU (dB a0.be 0 5) λr3=>bif r3 then(abU (dB a0.ag 0 999999) λr4=>bif r4 then(abU (dB a0.aT 0 999999) λr5=>bif r5 then(abU (dB a0.bL 0 1000000000000) λr6=>some r6) else(some false)) else(some false)) else(some false)) else(some false)) λ(v2:Bool)=>some v2
theorem vE {a0:aD} (H:lD a0=some r):Fn prog 351 [.agg (c9 a0)] [.c (.d (.b r))]:=by
 refine fI func351 ntmps351 ?_
 refine aa H λr1 q1 H=>nA (ca (hF:=cm q1)) ?_
 refine aa H λv2 Hj H=>jR ⟨[(2,tB v2)],[],0⟩ ?_ ?_
 .refine gC Hj ?_ ?_<;>intro H
  .refine aa H λr3 q3 H=>nG (ca (hF:=cm q3)) ?_
   refine gC H ?_ ?_<;>intro H
   .refine aa H λr4 q4 H=>nG (ca (hF:=cm q4)) ?_
    refine gC H ?_ ?_<;>intro H
    .refine aa H λr5 q5 H=>nG (ca (hF:=cm q5)) ?_
     refine gC H ?_ ?_<;>intro H
     .refine aa H λr6 q6 H=>nG (ca (hF:=cm q6)) ?_
      exact ai H
     exact ai H
    exact ai H
   exact ai H
  exact ai H
 exact ao H
def gO (a0:aY) (a1:Int):(Int×List ae)->Option (cq (Int×List ae) (List ae))
 |(v2,v3)=>bif ltB v2 (a0.aw.length:Int) then(abU (ix a0.aw v2) λx9=>abU (bif leB a1 x9.cV then(abU (ix a0.aw v2) λx11=>abU (ix a0.aw v2) λx12=>bif c8 1 (([]:List Int)++x12.bg).length then(bif c8 32 (v3++[(⟨x11.cV,(([]:List Int)++x12.bg)⟩:ae)]).length then(some (v3++[(⟨x11.cV,(([]:List Int)++x12.bg)⟩:ae)])) else none) else none) else(some v3)) λ(v10:List ae)=>some (.next (WR (v2+1),v10))) else(some (.done v3))
def kS (a0:aY) (a1:Int):Option aY:=
 abU (nn a0) λr1=>bif ltB a0.bB a1 then(some r1) else(abU (iter (gO a0 a1) FU (0,([]:List ae))) λ(v8:List ae)=>some (⟨r1.bB,v8⟩:aY))
theorem Ao {a0:aY} {r:aY} (H:kS a0 a1=some r):Fn prog 371 [.agg (gz a0),aI a1] [.agg (qM [.o] (dE r))]:=by
 refine fI func371 ntmps371 ?_
 refine aa H λr1 q1 H=>nA (ca (hF:=lU q1)) ?_
 refine cC H ?_ ?_<;>intro H
 .exact ao H
 refine aa H λv8 Hj H=>jB ⟨[(4,tP 1),(5,tP 3)],(oM [.w 4] 3 71 (dE (⟨r1.bB,v8⟩:aY))++[(1,.var 71 (kM [.z] (dE jY)))]),5⟩ ?_ ?_
 .refine iT Hj (λq=>⟨[(1,tI a1),(2,tP 0),(4,tP 1),(5,tP 3),(6,tI q.1)],(oM [.w 4] 3 71 (dE (⟨r1.bB,q.2⟩:aY))++[(0,.var 71 (kM [.f] (dE a0))),(1,.var 71 (kM [.z] (dE jY)))]),5⟩) ?_ (by refine aq (wB 4 (([]:List ae).length)) ?_;exact wo)
  rintro⟨v2,v3⟩ o H
  refine ad ?_
  refine cC H ?_ ?_<;>intro H
  .refine aa H λx9 hx9 H=>nA (xdT (enc:=an) hx9) ?_
   refine aa H λv10 Hj H=>jA ⟨[(1,tI a1),(2,tP 0),(4,tP 1),(5,tP 3),(6,tI v2)],(oM [.w 4] 3 71 (dE (⟨r1.bB,v10⟩:aY))++[(0,.var 71 (kM [.f] (dE a0))),(1,.var 71 (kM [.z] (dE jY)))]),5⟩ ?_ ?_
   .refine cC Hj ?_ ?_<;>intro H
    .refine zI (hV 21) ?_
     refine aa H λx11 hx11 H=>zA (xdT (enc:=an) hx11) ?_
     refine aa H λx12 hx12 H=>zA (xdT (enc:=an) hx12) ?_
     obtain⟨h,H⟩:=rq H
     refine wA (IM (enc:=eU8) (ys:=([]:List Int)) (zs:=x12.bg) [5] h) ?_
     obtain⟨h,H⟩:=rq H
     refine wi (ds:=[5]) (by kernel_rfl) (by kernel_rfl) rfl (by kernel_rfl) b8 (gG rfl (apT (enc:=an) (ys:=v3) (zs:=[(⟨x11.cV,(([]:List Int)++x12.bg)⟩:ae)]) h)) b8 rfl ?_
     refine wI ?_
     refine wA (spx 100436) ?_
     exact ai H
    exact ai H
   exact aN H
  exact aE H
 exact ao H
def pV (a0:cX) (a1:Int):Option (cX×Bool):=
 abU (ip a0) λr1=>abU (bif !r1 then(some true) else(abU (dB a1 0 (WR (a0.cG-a0.ev))) λr3=>some (!r3))) λ(v2:Bool)=>bif v2 then(some (a0,false)) else(some ({a0 with ev:=WR (a0.ev+a1)},true))
theorem E4 {a0:cX} {r:cX×Bool} (H:pV a0 a1=some r):Fn prog 372 [.agg (pK a0),aI a1] [.agg (qM [] (nU r.1)),.c (.d (.b r.2))]:=by
 refine fI func372 ntmps372 ?_
 refine aa H λr1 q1 H=>nA (ca (hF:=ko q1)) ?_
 refine aa H λv2 Hj H=>jR ⟨[(1,tI a1),(2,tP 0),(4,tP 1),(19,tB v2)],[(0,.var 73 (kM [] (nU a0))),(1,.var 73 (kM [] (nU C0)))],2⟩ ?_ ?_
 .refine gC Hj ?_ ?_<;>intro H
  .exact ai H
  refine aa H λr3 q3 H=>nG (ca (hF:=cm q3)) ?_
  exact ai H
 exact ay H
end Go.AM
