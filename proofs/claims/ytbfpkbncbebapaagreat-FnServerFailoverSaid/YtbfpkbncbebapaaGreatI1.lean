/- A part. -/
import Derived.Test.YtbfpkbncbebapaaGreatI0
set_option linter.unusedVariables false
open Option renaming bind->YL
namespace Go.AM
open Go.Proofs
open Tryz
attribute [local irreducible] AWN NS AWO AWR AWC DR dQ gQ
set_option maxRecDepth 100000
set_option maxHeartbeats 40000000
def sX (a0:aM) (a1:Int) (a2:Int):Option Bool:=
 YL (rG a0 a1) λr1=>YL (bif r1 then(YL (ix a0.aR a1) λx3=>YL (fL x3.bX a2) λr4=>some r4) else(some false)) λ(v2:Bool)=>some v2
theorem B6 {a0:aM} {a1:Int} {a2:Int} {r:Bool} (H:sX a0 a1 a2=some r):Fn prog 127 [.agg (gI a0),aI a1,aI a2] [.c (.d (.b r))]:=by
 refine fI func127 ntmps127 ?_
 refine aa H λr1 q1 H=>nA (ca (hF:=tu q1)) ?_
 refine aa H λv2 Hj H=>jR ⟨[(6,tB v2)],[],0⟩ ?_ ?_
 .refine gC Hj ?_ ?_<;>intro H
  .refine aa H λx3 hx3 H=>nG (xdT (enc:=cQ) hx3) ?_
   refine aa H λr4 q4 H=>nG (ca (hF:=qx q4)) ?_
   exact ai H
  exact ai H
 exact ao H
def ig (a0:am) (a1:cT):Option Bool:=
 YL (jl a0) λr1=>YL (bif r1 then(YL (jC a1) λr3=>bif r3 then(YL (pK a0 a1.ax) λr4=>some (eqB r4 a1.cH)) else(some false)) else(some false)) λ(v2:Bool)=>some v2
theorem uj {a0:am} {a1:cT} {r:Bool} (H:ig a0 a1=some r):Fn prog 83 [.agg (cp a0),.agg (pG a1)] [.c (.d (.b r))]:=by
 refine fI func83 ntmps83 ?_
 refine dI ?_
 refine aa H λr1 q1 H=>dA (ca (hF:=ry q1)) ?_
 refine aa H λv2 Hj H=>et ⟨[(4,tB v2)],[],0⟩ ?_ ?_
 .have H:=Hj
  refine wI ?_
  refine dC H ?_ ?_<;>intro H
  .refine aa H λr3 q3 H=>dG (ca (hF:=o6 q3)) ?_
   refine dC H ?_ ?_<;>intro H
   .refine aa H λr4 q4 H=>dG (ca (hF:=Dr q4)) ?_
    refine wI ?_
    exact ai H
   refine wI ?_
   exact ai H
  refine wI ?_
  exact ai H
 refine wI ?_
 exact ao H
def pJ (a0:me):Option Bool:=
 YL (fQ a0.ID) λr1=>YL (bif r1 then(YL (gA a0.eP) λr3=>bif r3 then(YL (ct a0.dM 0 999999) λr4=>some r4) else(some false)) else(some false)) λ(v2:Bool)=>some v2
theorem Dq {a0:me} {r:Bool} (H:pJ a0=some r):Fn prog 191 [.agg (Hb a0)] [.c (.d (.b r))]:=by
 refine fI func191 ntmps191 ?_
 refine aa H λr1 q1 H=>nA (ca (hF:=mt q1)) ?_
 refine aa H λv2 Hj H=>jR ⟨[(2,tB v2)],[],0⟩ ?_ ?_
 .refine gC Hj ?_ ?_<;>intro H
  .refine aa H λr3 q3 H=>nG (ca (hF:=iv q3)) ?_
   refine gC H ?_ ?_<;>intro H
   .refine aa H λr4 q4 H=>nG (ca (hF:=bZ q4)) ?_
    exact ai H
   exact ai H
  exact ai H
 exact ao H
def lG (a0:cT):Option Int:=
 YL (jC a0) λr1=>bif !r1 then(some 0) else(some (WR (a0.cH-a0.ed)))
theorem zE {a0:cT} {r:Int} (H:lG a0=some r):Fn prog 93 [.agg (pG a0)] [.c (.d (.i .i64 r))]:=by
 refine fI func93 ntmps93 ?_
 refine aa H λr1 q1 H=>nA (ca (hF:=o6 q1)) ?_
 refine cC H ?_ ?_<;>intro H
 .exact ao H
 exact ao H
def fN (a0:aG):Option Bool:=
 YL (fQ a0.ID) λr1=>YL (bif r1 then(YL (gA a0.eP) λr3=>bif r3 then(YL (ct a0.cV 0 999999) λr4=>some r4) else(some false)) else(some false)) λ(v2:Bool)=>some v2
theorem qz {a0:aG} {r:Bool} (H:fN a0=some r):Fn prog 194 [.agg (cA a0)] [.c (.d (.b r))]:=by
 refine fI func194 ntmps194 ?_
 refine aa H λr1 q1 H=>nA (ca (hF:=mt q1)) ?_
 refine aa H λv2 Hj H=>jR ⟨[(2,tB v2)],[],0⟩ ?_ ?_
 .refine gC Hj ?_ ?_<;>intro H
  .refine aa H λr3 q3 H=>nG (ca (hF:=iv q3)) ?_
   refine gC H ?_ ?_<;>intro H
   .refine aa H λr4 q4 H=>nG (ca (hF:=bZ q4)) ?_
    exact ai H
   exact ai H
  exact ai H
 exact ao H
def f9 (a0:bk):Int->Option (cf (Int) (Bool))
 |v5=>bif ltB v5 (a0.bj.length:Int) then(YL (ix a0.bj v5) λx6=>YL (ct x6 0 3) λr7=>bif !r7 then(dn (some false)) else(some (.next (WR (v5+1))))) else(dn (YL (mE a0.bj) λr8=>some r8))
def ie (a0:bk):Option Bool:=
 YL (ct a0.gH 1 1000) λr1=>YL (bif !r1 then(some true) else(YL (ct a0.gG 1 4) λr3=>bif !r3 then(some true) else(YL (ct a0.eg 1 100000) λr4=>some (!r4)))) λ(v2:Bool)=>bif v2 then(some false) else(iter (f9 a0) FU 0)
theorem uh {a0:bk} {r:Bool} (H:ie a0=some r):Fn prog 195 [.agg (gL a0)] [.c (.d (.b r))]:=by
 refine fI func195 ntmps195 ?_
 refine aa H λr1 q1 H=>nA (ca (hF:=bZ q1)) ?_
 refine aa H λv2 Hj H=>jR ⟨[(1,tP 0),(20,tB v2)],[(0,.var 59 (kM [.f] (dD a0)))],1⟩ ?_ ?_
 .refine gC Hj ?_ ?_<;>intro H
  .exact ai H
  refine aa H λr3 q3 H=>nG (ca (hF:=bZ q3)) ?_
  refine gC H ?_ ?_<;>intro H
  .exact ai H
  refine aa H λr4 q4 H=>nG (ca (hF:=bZ q4)) ?_
  exact ai H
 refine cC H ?_ ?_<;>intro H
 .exact ao H
 refine iT H (λq=>⟨[(1,tP 0),(22,.v (.c (.d false (.l (a0.bj.map eI))))),(23,tI (a0.bj.length:Int)),(24,tI q)],[(0,.var 59 (kM [.f] (dD a0)))],1⟩) ?_
 rintro v5 o H
 try dsimp only
 refine wI ?_
 refine cC H ?_ ?_<;>intro H
 .refine aa H λx6 hx6 H=>nA (xdT (enc:=eI) hx6) ?_
  refine aa H λr7 q7 H=>nA (ca (hF:=bZ q7)) ?_
  refine cC H ?_ ?_<;>intro H
  .obtain⟨r0,Hd,rfl⟩:=dnE H
   refine f6 (λhq=>?_)
   have H:=Hd.trans (congrArg some hq)
   refine wI ?_
   exact ao H
  cases H
  refine dy ?_
  exact wo
 obtain⟨r0,Hd,rfl⟩:=dnE H
 refine dF (λhq=>?_)
 have H:=Hd.trans (congrArg some hq)
 refine wI ?_
 refine aa H λr8 q8 H=>nA (ca (hF:=vP q8)) ?_
 exact ao H
def mn (a0:cP):Option Bool:=
 YL (ct a0.fB 0 2) λr1=>YL (bif r1 then(YL (ct a0.eM 0 4) λr3=>bif r3 then(YL (ct a0.f5 0 3) λr4=>some r4) else(some false)) else(some false)) λ(v2:Bool)=>some v2
theorem AY {a0:cP} {r:Bool} (H:mn a0=some r):Fn prog 196 [.agg (sW a0)] [.c (.d (.b r))]:=by
 refine fI func196 ntmps196 ?_
 refine aa H λr1 q1 H=>nA (ca (hF:=bZ q1)) ?_
 refine aa H λv2 Hj H=>jR ⟨[(2,tB v2)],[],0⟩ ?_ ?_
 .refine gC Hj ?_ ?_<;>intro H
  .refine aa H λr3 q3 H=>nG (ca (hF:=bZ q3)) ?_
   refine gC H ?_ ?_<;>intro H
   .refine aa H λr4 q4 H=>nG (ca (hF:=bZ q4)) ?_
    exact ai H
   exact ai H
  exact ai H
 exact ao H
def jN (a0:aX):Int->Option (cf (Int) (Bool))
 |v3=>bif ltB v3 (a0.az.length:Int) then(YL (ix a0.az v3) λx4=>YL (bif !eqB x4.cV (WR ((WR (a0.bz-(a0.az.length:Int)))+v3)) then(some true) else(some (ltB 60 (x4.aS.length:Int)))) λ(v5:Bool)=>bif v5 then(dn (some false)) else(some (.next (WR (v3+1))))) else(dn (some true))
def mr (a0:aX):Option Bool:=
 YL (ct a0.bz 1 100000) λr1=>YL (bif !r1 then(some true) else(some (ltB 8 (a0.az.length:Int)))) λ(v2:Bool)=>bif v2 then(some false) else(bif ltB (WR (a0.bz-(a0.az.length:Int))) 1 then(some false) else(iter (jN a0) FU 0))
theorem AZ {a0:aX} {r:Bool} (H:mr a0=some r):Fn prog 197 [.agg (gz a0)] [.c (.d (.b r))]:=by
 refine fI func197 ntmps197 ?_
 refine aa H λr1 q1 H=>nA (ca (hF:=bZ q1)) ?_
 refine aa H λv2 Hj H=>jR ⟨[(1,tP 0),(15,tB v2)],[(0,.var 65 (kM [.f] (dY a0)))],1⟩ ?_ ?_
 .refine gC Hj ?_ ?_<;>intro H
  .exact ai H
  exact ai H
 refine cC H ?_ ?_<;>intro H
 .exact ao H
 refine cC H ?_ ?_<;>intro H
 .exact ao H
 refine iT H (λq=>⟨[(3,tI (WR (a0.bz-(a0.az.length:Int)))),(25,.v (.c (.d false (.l (a0.az.map av))))),(26,tI (a0.az.length:Int)),(27,tI q)],[],0⟩) ?_
 rintro v3 o H
 try dsimp only
 refine wI ?_
 refine cC H ?_ ?_<;>intro H
 .refine aa H λx4 hx4 H=>nA (xdT (enc:=av) hx4) ?_
  refine aa H λv5 Hj H=>jR ⟨[(3,tI (WR (a0.bz-(a0.az.length:Int)))),(25,.v (.c (.d false (.l (a0.az.map av))))),(26,tI (a0.az.length:Int)),(27,tI v3),(43,tB v5)],[],0⟩ ?_ ?_
  .refine gC Hj ?_ ?_<;>intro H
   .exact ai H
   exact ai H
  refine cC H ?_ ?_<;>intro H
  .obtain⟨r0,Hd,rfl⟩:=dnE H
   refine f6 (λhq=>?_)
   have H:=Hd.trans (congrArg some hq)
   refine wI ?_
   exact ao H
  cases H
  refine dy ?_
  exact wo
 obtain⟨r0,Hd,rfl⟩:=dnE H
 refine dF (λhq=>?_)
 have H:=Hd.trans (congrArg some hq)
 refine wI ?_
 exact ao H
def mu (a0:ah):Option Int:=
 YL (mF a0.aw.az) λr1=>some r1
theorem xI {a0:ah} {r:Int} (H:mu a0=some r):Fn prog 200 [.agg (bB a0)] [.c (.d (.i .i64 r))]:=by
 refine fI func200 ntmps200 ?_
 refine aa H λr1 q1 H=>nA (ca (hF:=A2 q1)) ?_
 exact ao H
def jP (a0:bk):Option bk:=
 YL (qa a0.bj) λr1=>some {a0 with bj:=r1}
theorem xK {a0:bk} {r:bk} (H:jP a0=some r):Fn prog 122 [.agg (gL a0)] [.agg (qM [.o] (dD r))]:=by
 refine fI func122 ntmps122 ?_
 refine aa H λr1 q1 H=>nA (ca (hF:=BA q1)) ?_
 exact ao H
def nP (a0:List bm):(Int×List bm)->Option (cf (Int×List bm) (List bm))
 |(v1,v2)=>bif ltB v1 (a0.length:Int) then(YL (ix a0 v1) λx7=>YL (ke x7.aS) λr8=>YL (ix v2 v1) λx9=>some (.next (WR (v1+1),(v2.set (v1).toNat (⟨r8⟩:bm))))) else(some (.done v2))
def lk (a0:List bm):Option (List bm):=
 bif zQ 24 (a0.length:Int) (a0.length:Int) then(YL (iter (nP a0) FU (0,(List.replicate ((a0.length:Int)).toNat (⟨[]⟩:bm)))) λ(v6:List bm)=>some v6) else none
theorem uY {a0:List bm} {r:List bm} (H:lk a0=some r):Fn prog 123 [aL (a0.map cd)] [.c (.own 125 1 (r.map cd) r.length)]:=by
 refine fI func123 ntmps123 ?_
 obtain⟨h,H⟩:=rq H
 refine nA (mkT (enc:=cd) (za:=(⟨[]⟩:bm)) h (by rfl)) ?_
 refine aa H λv6 Hj H=>jB ⟨[(3,.v (.c (.w 0 v6.length)))],[(0,SO v6)],1⟩ ?_ ?_
 .refine iT Hj (λq=>⟨[(3,.v (.c (.w 0 q.2.length))),(9,.v (.c (.d false (.l (a0.map cd))))),(10,tI (a0.length:Int)),(11,tI q.1)],[(0,SO q.2)],1⟩) ?_
  rintro⟨v1,v2⟩ o H
  try dsimp only
  refine wI ?_
  refine cC H ?_ ?_<;>intro H
  .refine aa H λx7 hx7 H=>nA (xdT (enc:=cd) hx7) ?_
   refine aa H λr8 q8 H=>nA (ca (hF:=ul q8)) ?_
   refine aa H λx9 hx9 H=>nA (xwT hx9) ?_
   refine bH (aU (o:=2)) ?_
   refine bH (cj (k:=21)) ?_
   refine sA (soT (enc:=cd) (a':=(⟨r8⟩:bm)) hx9) ?_
   cases H
   refine dy ?_
   exact wo
  cases H
  refine dF (λhq=>?_)
  cases hq
  refine wI ?_
  exact wo
 exact ao H
def nO (a0:List ae):(Int×List ae)->Option (cf (Int×List ae) (List ae))
 |(v1,v2)=>bif ltB v1 (a0.length:Int) then(YL (ix a0 v1) λx7=>YL (ke x7.aS) λr8=>YL (ix v2 v1) λx9=>some (.next (WR (v1+1),(v2.set (v1).toNat (⟨x7.cV,r8⟩:ae))))) else(some (.done v2))
def lj (a0:List ae):Option (List ae):=
 bif zQ 32 (a0.length:Int) (a0.length:Int) then(YL (iter (nO a0) FU (0,(List.replicate ((a0.length:Int)).toNat fa))) λ(v6:List ae)=>some v6) else none
theorem uX {a0:List ae} {r:List ae} (H:lj a0=some r):Fn prog 188 [aL (a0.map av)] [.c (.own 144 2 (r.map av) r.length)]:=by
 refine fI func188 ntmps188 ?_
 obtain⟨h,H⟩:=rq H
 refine nA (mkT (enc:=av) (za:=fa) h (by rfl)) ?_
 refine aa H λv6 Hj H=>jB ⟨[(3,.v (.c (.w 0 v6.length)))],[(0,SQ v6)],1⟩ ?_ ?_
 .refine iT Hj (λq=>⟨[(3,.v (.c (.w 0 q.2.length))),(9,.v (.c (.d false (.l (a0.map av))))),(10,tI (a0.length:Int)),(11,tI q.1)],[(0,SQ q.2)],1⟩) ?_
  rintro⟨v1,v2⟩ o H
  try dsimp only
  refine wI ?_
  refine cC H ?_ ?_<;>intro H
  .refine aa H λx7 hx7 H=>nA (xdT (enc:=av) hx7) ?_
   refine zI (List.range 10) ?_
   refine aa H λr8 q8 H=>zA (ca (hF:=ul q8)) ?_
   refine aa H λx9 hx9 H=>zA (xwT hx9) ?_
   refine zB (ay (aU (o:=2)) (cj (k:=23))) (hP rfl (soT (enc:=av) (a':=(⟨x7.cV,r8⟩:ae)) hx9)) bW ?_
   cases H
   refine dy ?_
   exact wo
  cases H
  refine dF (λhq=>?_)
  cases hq
  refine wI ?_
  exact wo
 exact ao H
def pL (a0:am):Option am:=
 YL (fc a0.aq) λr1=>some {a0 with aq:=r1}
theorem Du {a0:am} {r:am} (H:pL a0=some r):Fn prog 84 [.agg (cp a0)] [.agg (qM [.o] (cG r))]:=by
 refine fI func84 ntmps84 ?_
 refine aa H λr1 q1 H=>nA (ca (hF:=oI q1)) ?_
 exact ao H
def vL (a0:aM):(Int×List eH)->Option (cf (Int×List eH) (List eH))
 |(v1,v2)=>bif ltB v1 (a0.aR.length:Int) then(YL (ix a0.aR v1) λx7=>YL (qa x7.bX) λr8=>YL (ix v2 v1) λx9=>some (.next (WR (v1+1),(v2.set (v1).toNat (⟨x7.fB,r8⟩:eH))))) else(some (.done v2))
def zG (a0:aM):Option aM:=
 bif zQ 32 (a0.aR.length:Int) (a0.aR.length:Int) then(YL (iter (vL a0) FU (0,(List.replicate ((a0.aR.length:Int)).toNat Mb))) λ(v6:List eH)=>some (⟨v6⟩:aM)) else none
theorem Le {a0:aM} {r:aM} (H:zG a0=some r):Fn prog 106 [.agg (gI a0)] [.agg [.own 158 2 (r.aR.map cQ) r.aR.length]]:=by
 refine fI func106 ntmps106 ?_
 obtain⟨h,H⟩:=rq H
 refine nA (mkT (enc:=cQ) (za:=Mb) h (by rfl)) ?_
 refine aa H λv6 Hj H=>jB ⟨[(2,tP 1),(3,.v (.c (.w 2 v6.length)))],[(1,.var 26 [.nil]),(2,w158 v6)],3⟩ ?_ ?_
 .refine iT Hj (λq=>⟨[(2,tP 1),(3,.v (.c (.w 2 q.2.length))),(11,.v (.c (.d false (.l (a0.aR.map cQ))))),(12,tI (a0.aR.length:Int)),(13,tI q.1)],[(1,.var 26 [.nil]),(2,w158 q.2)],3⟩) ?_
  rintro⟨v1,v2⟩ o H
  try dsimp only
  refine wI ?_
  refine cC H ?_ ?_<;>intro H
  .refine aa H λx7 hx7 H=>nA (xdT (enc:=cQ) hx7) ?_
   refine zI (List.range 10) ?_
   refine aa H λr8 q8 H=>zA (ca (hF:=BA q8)) ?_
   refine aa H λx9 hx9 H=>zA (xwT hx9) ?_
   refine zB (ay (aU (o:=4)) (cj (k:=25))) (hP rfl (soT (enc:=cQ) (a':=(⟨x7.fB,r8⟩:eH)) hx9)) bW ?_
   cases H
   refine dy ?_
   exact wo
  cases H
  refine dF (λhq=>?_)
  cases hq
  refine wI ?_
  exact wo
 exact ao H
def pM (a0:bw):Option bw:=
 YL (ke a0.aS) λr1=>some {a0 with aS:=r1}
theorem Dv {a0:bw} {r:bw} (H:pM a0=some r):Fn prog 256 [.agg (eE a0)] [.agg (qM [.o] (nL r))]:=by
 refine fI func256 ntmps256 ?_
 refine aa H λr1 q1 H=>nA (ca (hF:=ul q1)) ?_
 exact ao H
def TS (a0:Int) (a1:Int):Option Int:=
 YL (ct a1 1 1000000000000) λr1=>bif !r1 then(some 0) else(bif !eqB a1 0 then(YL (bif ltB (Int.tmod a0 a1) 0 then(some (WR ((Int.tmod a0 a1)+a1))) else(some (Int.tmod a0 a1))) λ(v2:Int)=>some v2) else none)
theorem VG {a0:Int} {a1:Int} {r:Int} (H:TS a0 a1=some r):Fn prog 309 [aI a0,aI a1] [.c (.d (.i .i64 r))]:=by
 refine fI func309 ntmps309 ?_
 refine aa H λr1 q1 H=>nA (ca (hF:=bZ q1)) ?_
 refine cC H ?_ ?_<;>intro H
 .exact ao H
 obtain⟨h,H⟩:=rq H
 refine nA (ir rfl rfl rfl (ne0 h)) ?_
 refine aa H λv2 Hj H=>jA ⟨[(5,tI v2)],[],0⟩ ?_ ?_
 .refine cC Hj ?_ ?_<;>intro H
  .exact ai H
  exact ai H
 exact ao H
end Go.AM
