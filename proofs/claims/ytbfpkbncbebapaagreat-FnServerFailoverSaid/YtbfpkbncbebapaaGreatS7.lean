/- A part. -/
import Derived.Test.YtbfpkbncbebapaaGreatS4
import Derived.Test.YtbfpkbncbebapaaGreatS5
import Derived.Test.YtbfpkbncbebapaaGreatS6
set_option linter.unusedVariables false
open Option renaming bind->YL
open List renaming range->hV,cons_ne_nil->YM
open Int renaming tmod->YN
namespace Go.AM
open Go.Proofs
open Tryz
attribute [local irreducible] AWN NS AWO AWR AWC DR dQ gQ
set_option maxRecDepth 100000
set_option maxHeartbeats 40000000
def m9 (a0:aM) (a1:List aG) (a2:bk) (a3:Int):(Int×List am×List ah×List aD)->Option (cf (Int×List am×List ah×List aD) (List am×List ah×List aD))
 |(v6,v7,v8,v9)=>bif ltB v6 (a1.length:Int) then(YL (ix a1 v6) λx17=>bif !eqB (a0.aR.length:Int) 0 then(YL (uC (⟨x17.ID,x17.eP,x17.cV⟩:me) (YN v6 (a0.aR.length:Int))) λr18=>bif dh 144 (v9++[{r18 with bI:={dO with bz:=r18.bI.bz}}]).length then(YL (sa x17 a2 v6) λr19=>bif dh 288 (v8++[{r19 with aA:=[],aw:=(⟨r19.aw.bz,[]⟩:aX)}]).length then(YL (rY a3) λr20=>bif dh 48 (v7++[{r20 with aq:=[]}]).length then(some (.next (WR (v6+1),(v7++[{r20 with aq:=[]}]),(v8++[{r19 with aA:=[],aw:=(⟨r19.aw.bz,[]⟩:aX)}]),(v9++[{r18 with bI:={dO with bz:=r18.bI.bz}}])))) else none) else none) else none) else none) else(some (.done (v7,v8,v9)))
def rZ (a0:aM) (a1:List aG) (a2:bk) (a3:Int):Option ab:=
 YL (oO a0) λr1=>YL (bif !r1 then(some true) else(YL (fZ a2) λr3=>bif !r3 then(some true) else(YL (sI a1) λr4=>some (!r4)))) λ(v2:Bool)=>bif v2 then(some {dL with d8:=(⟨[]⟩:aM)}) else(YL (oS a0) λr5=>YL (iter (m9 a0 a1 a2 a3) FU (0,([]:List am),([]:List ah),([]:List aD))) λ((v14,v15,v16):List am×List ah×List aD)=>some (⟨r5,v16,v15,v14,[],0,(⟨2,3⟩:a8),0,0⟩:ab))
theorem yg {a0:aM} {a1:List aG} {a2:bk} {a3:Int} {r:ab} (H:rZ a0 a1 a2 a3=some r):FnV prog 136 [] [.v (.agg [.d false (.l (a0.aR.map cQ))]),.v (.c (.d false (.l (a1.map cA)))),.v (.agg (kM [.f] (dD a2))),tI a3] [] (.v (.agg (kM [.n 210,.n 211,.n 212,.n 213,.z] (aJ {r with aN:=[]})))) [(210,Oz r.d8.aR),(211,n86 r.an),(212,n69 r.aj),(213,n89 r.bi)]:=by
 refine fV func136 ntmps136 ?_
 refine aa H λr1 q1 H=>nA (ca (hF:=ye q1)) ?_
 refine aa H λv2 Hj H=>jR ⟨[(1,.v (.c (.d false (.l (a1.map cA))))),(3,tI a3),(4,tP 210),(6,tP 211),(8,tP 212),(24,tB v2)],[(210,.var 26 [.d false (.l (a0.aR.map cQ))]),(211,.var 59 (kM [.f] (dD a2))),(212,.var 34 (kM [.z,.z,.z,.z,.z] (aJ {dL with d8:=(⟨[]⟩:aM)})))],213⟩ ?_ ?_
 .refine gC Hj ?_ ?_<;>intro H
  .exact ai H
  refine aa H λr3 q3 H=>nG (ca (hF:=mY q3)) ?_
  refine gC H ?_ ?_<;>intro H
  .exact ai H
  refine aa H λr4 q4 H=>nG (ca (hF:=Fx q4)) ?_
  exact ai H
 refine cC H ?_ ?_<;>intro H
 .cases H
  refine bV ((dE (o:=212) (j:=0) 158 2 true)) ?_
  refine bV ((dE (o:=212) (j:=1) 86 14 true)) ?_
  refine bV ((dE (o:=212) (j:=2) 69 30 true)) ?_
  refine bV ((dE (o:=212) (j:=3) 89 4 true)) ?_
  refine bV (wS 213 210) ?_
  refine bV (wS 214 211) ?_
  refine bV (wS 215 212) ?_
  refine bV (wS 216 213) ?_
  refine bV ((wB 210 (([]:List eH).length))) ?_
  refine bV ((wB 211 (([]:List aD).length))) ?_
  refine bV ((wB 212 (([]:List ah).length))) ?_
  refine bV ((wB 213 (([]:List am).length))) ?_
  exact bO
 refine aa H λr5 q5 H=>sA (cwv [] [(210,213)] 214 (LQ q5)) ?_
 obtain⟨⟨v14,v15,v16⟩,Hj,H⟩:=ob H
 refine jB ⟨[(8,tP 212),(9,tP 214)],(oM [.n 213,.n 215,.n 216,.n 217,.z] 214 34 (aJ (⟨r5,v16,v15,v14,[],0,(⟨2,3⟩:a8),0,0⟩:ab))++[(212,.var 34 (kM [.z,.z,.z,.z,.z] (aJ {dL with d8:=(⟨[]⟩:aM)})))]),218⟩ ?_ ?_
 .refine iT Hj (λq=>⟨[(1,.v (.c (.d false (.l (a1.map cA))))),(3,tI a3),(4,tP 210),(6,tP 211),(8,tP 212),(9,tP 214),(10,tI q.1)],(oM [.n 213,.n 215,.n 216,.n 217,.z] 214 34 (aJ (⟨r5,q.2.2.2,q.2.2.1,q.2.1,[],0,(⟨2,3⟩:a8),0,0⟩:ab))++[(210,.var 26 [.d false (.l (a0.aR.map cQ))]),(211,.var 59 (kM [.f] (dD a2))),(212,.var 34 (kM [.z,.z,.z,.z,.z] (aJ {dL with d8:=(⟨[]⟩:aM)})))]),218⟩) ?_ (by refine ay (dE (o:=214) (j:=1) 86 14 true) ?_;refine ay (dE (o:=214) (j:=2) 69 30 true) ?_;refine ay (dE (o:=214) (j:=3) 89 4 true) ?_;refine ay (wB 215 (([]:List aD).length)) ?_;refine ay (wB 216 (([]:List ah).length)) ?_;refine ay (wB 217 (([]:List am).length)) ?_;exact wo)
  rintro⟨v6,v7,v8,v9⟩ o H
  try dsimp only
  refine wI ?_
  refine cC H ?_ ?_<;>intro H
  .refine aa H λx17 hx17 H=>nA (xdT (enc:=cA) hx17) ?_
   refine zI (hV 19) ?_
   obtain⟨h,H⟩:=rq H
   refine zA (ir rfl rfl rfl (ne0 h)) ?_
   refine aa H λr18 q18 H=>zA (ca (hF:=HV q18)) ?_
   obtain⟨h,H⟩:=rq H
   refine zB bW (hP rfl (B4 (enc:=cI) (ys:=v9) (zs:=[{r18 with bI:={dO with bz:=r18.bI.bz}}]) h (by first|exact YM _ _|simp) rfl (λ_=>rfl) (by first|rfl|simp) (.w rfl (by first|rfl|exact lm _|simp)) rfl rfl rfl rfl rfl rfl rfl rfl rfl rfl)) bW ?_
   refine wA (spx 100072) ?_
   refine zI (hV 10) ?_
   refine aa H λr19 q19 H=>zA (ca (hF:=(Fs q19).frzs (by repeat (first|exact trivial|refine⟨?_,?_⟩|exact lm _|rfl)))) ?_
   obtain⟨h,H⟩:=rq H
   refine zB bW (hP rfl (B4 (enc:=bB) (ys:=v8) (zs:=[{r19 with aA:=[],aw:=(⟨r19.aw.bz,[]⟩:aX)}]) h (by first|exact YM _ _|simp) rfl (λ_=>rfl) (by first|rfl|simp) (.w rfl (by first|rfl|exact lm _|simp)) rfl rfl rfl rfl rfl rfl rfl rfl rfl rfl)) bW ?_
   refine wA (spx 100071) ?_
   refine zI (hV 8) ?_
   refine aa H λr20 q20 H=>zA (ca (hF:=Fr q20)) ?_
   obtain⟨h,H⟩:=rq H
   refine zB bW (hP rfl (B4 (enc:=cp) (ys:=v7) (zs:=[{r20 with aq:=[]}]) h (by first|exact YM _ _|simp) rfl (λ_=>rfl) (by first|rfl|simp) (.w rfl (by first|rfl|exact lm _|simp)) rfl rfl rfl rfl rfl rfl rfl rfl rfl rfl)) bW ?_
   refine wA (spx 100070) ?_
   cases H
   refine dy ?_
   refine ay (dS 215) ?_
   refine ay (dS 216) ?_
   refine ay (dS 217) ?_
   exact wo
  cases H
  refine dF (λhq=>?_)
  cases hq
  refine wI ?_
  exact wo
 cases H
 refine bV (wS 213 210) ?_
 refine bV (wS 215 211) ?_
 refine bV (wS 216 212) ?_
 refine bV (wS 217 213) ?_
 exact bO
def wv (a0:aD):Option bh:=
 bif !eqB a0.bu 0 then(YL (qR a0) λr1=>some r1) else(YL (jy a0) λr2=>YL (qQ a0) λr3=>YL (lB {r2 with bu:=1} r3) λr4=>some r4)
theorem Eb {a0:aD} {r:bh} (H:wv a0=some r):Fn prog 142 [.agg (cI a0)] [.agg (qM [.d,.d,.o] (cL r))]:=by
 refine fI func142 ntmps142 ?_
 refine cC H ?_ ?_<;>intro H
 .refine aa H λr1 q1 H=>nA (ca (hF:=uI q1)) ?_
  cases H
  refine cU (aU (o:=2)) ?_
  refine cU (aU (o:=3)) ?_
  refine cU (dq (o:=1)) ?_
  exact dT
 refine aa H λr2 q2 H=>nA (ca (hF:=jh q2)) ?_
 refine zI (hV 5) ?_
 refine aa H λr3 q3 H=>zA (ca (hF:=Av q3)) ?_
 refine aa H λr4 q4 H=>zB (ay (aU (o:=2)) (ay (aU (o:=3)) (cj (k:=12)))) (hP rfl (cwu [] [(210,5)] 6 (FnV.up (qS q4) rfl rfl))) bW ?_
 refine wA (spx 100080) ?_
 exact ao H
def jt (a0:ah):Option Bool:=
 YL (bif eqB a0.bu 1 then(YL (gD a0.aO) λr2=>bif !r2 then(some true) else(bif ltB 0 a0.bF then(YL (gD a0.aF.eP) λr3=>bif !r3 then(some true) else(YL (cO a0.bu 0 1) λr4=>some (!r4))) else(YL (cO a0.bu 0 1) λr5=>some (!r5)))) else(bif ltB 0 a0.bF then(YL (gD a0.aF.eP) λr6=>bif !r6 then(some true) else(YL (cO a0.bu 0 1) λr7=>some (!r7))) else(YL (cO a0.bu 0 1) λr8=>some (!r8)))) λ(v1:Bool)=>bif v1 then(some false) else(YL (ei a0.bC) λr9=>YL (bif !r9 then(some true) else(YL (fZ a0.g7) λr11=>bif !r11 then(some true) else(YL (mW a0.gZ) λr12=>bif !r12 then(some true) else(YL (gE a0.bM) λr13=>bif !r13 then(some true) else(YL (uL a0) λr14=>some (!r14)))))) λ(v10:Bool)=>bif v10 then(some false) else(YL (cO a0.bF 0 999999) λr15=>YL (bif !r15 then(some true) else(YL (cO a0.ag 0 999999) λr17=>bif !r17 then(some true) else(YL (cO a0.a9 0 999999) λr18=>bif !r18 then(some true) else(YL (cO a0.aO 0 2147483646) λr19=>some (!r19))))) λ(v16:Bool)=>bif v16 then(some false) else(YL (cO a0.bg 0 5) λr20=>YL (bif r20 then(YL (cO a0.d9 0 5) λr22=>bif r22 then(YL (cO a0.d7 0 3) λr23=>some r23) else(some false)) else(some false)) λ(v21:Bool)=>some v21)))
theorem rW {a0:ah} {r:Bool} (H:jt a0=some r):Fn prog 204 [.agg (bB a0)] [.c (.d (.b r))]:=by
 refine fI func204 ntmps204 ?_
 refine aa H λv1 Hj H=>jR ⟨[(1,tP 0),(29,tB v1)],[(0,.var 69 (kM [.f,.f,.f] (b8 a0)))],1⟩ ?_ ?_
 .refine gC Hj ?_ ?_<;>intro H
  .refine aa H λr2 q2 H=>nG (ca (hF:=iz q2)) ?_
   refine gC H ?_ ?_<;>intro H
   .exact ai H
   refine gC H ?_ ?_<;>intro H
   .refine aa H λr3 q3 H=>nG (ca (hF:=iz q3)) ?_
    refine gC H ?_ ?_<;>intro H
    .exact ai H
    refine aa H λr4 q4 H=>nG (ca (hF:=bT q4)) ?_
    exact ai H
   refine aa H λr5 q5 H=>nG (ca (hF:=bT q5)) ?_
   exact ai H
  refine gC H ?_ ?_<;>intro H
  .refine aa H λr6 q6 H=>nG (ca (hF:=iz q6)) ?_
   refine gC H ?_ ?_<;>intro H
   .exact ai H
   refine aa H λr7 q7 H=>nG (ca (hF:=bT q7)) ?_
   exact ai H
  refine aa H λr8 q8 H=>nG (ca (hF:=bT q8)) ?_
  exact ai H
 refine cC H ?_ ?_<;>intro H
 .exact ao H
 refine aa H λr9 q9 H=>nA (ca (hF:=gU q9)) ?_
 refine aa H λv10 Hj H=>jR ⟨[(1,tP 0),(56,tB v10)],[(0,.var 69 (kM [.f,.f,.f] (b8 a0)))],1⟩ ?_ ?_
 .refine gC Hj ?_ ?_<;>intro H
  .exact ai H
  refine aa H λr11 q11 H=>nG (ca (hF:=mY q11)) ?_
  refine gC H ?_ ?_<;>intro H
  .exact ai H
  refine aa H λr12 q12 H=>nG (ca (hF:=Bd q12)) ?_
  refine gC H ?_ ?_<;>intro H
  .exact ai H
  refine aa H λr13 q13 H=>nG (ca (hF:=jr q13)) ?_
  refine gC H ?_ ?_<;>intro H
  .exact ai H
  refine aa H λr14 q14 H=>nG (ca (hF:=Ib q14)) ?_
  exact ai H
 refine cC H ?_ ?_<;>intro H
 .exact ao H
 refine aa H λr15 q15 H=>nA (ca (hF:=bT q15)) ?_
 refine aa H λv16 Hj H=>jR ⟨[(1,tP 0),(78,tB v16)],[(0,.var 69 (kM [.f,.f,.f] (b8 a0)))],1⟩ ?_ ?_
 .refine gC Hj ?_ ?_<;>intro H
  .exact ai H
  refine aa H λr17 q17 H=>nG (ca (hF:=bT q17)) ?_
  refine gC H ?_ ?_<;>intro H
  .exact ai H
  refine aa H λr18 q18 H=>nG (ca (hF:=bT q18)) ?_
  refine gC H ?_ ?_<;>intro H
  .exact ai H
  refine aa H λr19 q19 H=>nG (ca (hF:=bT q19)) ?_
  exact ai H
 refine cC H ?_ ?_<;>intro H
 .exact ao H
 refine aa H λr20 q20 H=>nA (ca (hF:=bT q20)) ?_
 refine aa H λv21 Hj H=>jR ⟨[(2,tB v21)],[],0⟩ ?_ ?_
 .refine gC Hj ?_ ?_<;>intro H
  .refine aa H λr22 q22 H=>nG (ca (hF:=bT q22)) ?_
   refine gC H ?_ ?_<;>intro H
   .refine aa H λr23 q23 H=>nG (ca (hF:=bT q23)) ?_
    exact ai H
   exact ai H
  exact ai H
 exact ao H
def Bt (a0:Int) (a1:bw):Option Int:=
 YL (pT a1.aS) λr1=>bif dh 8 ([a1.di,a1.fP]++r1).length then(YL (eA a0 ([a1.di,a1.fP]++r1)) λr2=>some r2) else none
theorem Kq {a0:Int} {a1:bw} {r:Int} (H:Bt a0 a1=some r):Fn prog 247 [aI a0,.agg (eE a1)] [.c (.d (.i .i64 r))]:=by
 refine fI func247 ntmps247 ?_
 refine zI (hV 12) ?_
 refine aa H λr1 q1 H=>zA (ca (hF:=D4 q1)) ?_
 obtain⟨h,H⟩:=rq H
 refine wA (EU (enc:=eI) (ys:=[a1.di,a1.fP]) (zs:=r1) [1,2] h) ?_
 refine aa H λr2 q2 H=>zA (ca (hF:=eu q2)) ?_
 refine lD (ds:=[1]) (by kernel_rfl) (by kernel_rfl) rfl ?_
 refine wI ?_
 exact ao H
def n8 (a0:Int) (a1:Int):Option Int:=
 YL (eA a0 [9,a1]) λr1=>YL (D9 1 r1) λr2=>some r2
theorem uA {a0:Int} {a1:Int} {r:Int} (H:n8 a0 a1=some r):Fn prog 312 [aI a0,aI a1] [.c (.d (.i .i64 r))]:=by
 refine fI func312 ntmps312 ?_
 refine aa H λr1 q1 H=>nA (ca (hF:=eu q1)) ?_
 refine aa H λr2 q2 H=>nA (ca (hF:=Be q2)) ?_
 exact ao H
def lr (a0:Int) (a1:Int):Option Int:=
 YL (eA a0 [1,a1]) λr1=>YL (Fp r1 1000000) λr2=>some r2
theorem va {a0:Int} {a1:Int} {r:Int} (H:lr a0 a1=some r):Fn prog 315 [aI a0,aI a1] [.c (.d (.i .i64 r))]:=by
 refine fI func315 ntmps315 ?_
 refine aa H λr1 q1 H=>nA (ca (hF:=eu q1)) ?_
 refine aa H λr2 q2 H=>nA (ca (hF:=yL q2)) ?_
 exact ao H
def wl (a0:Int) (a1:List Int):(Int×List Int)->Option (cf (Int×List Int) (List Int))
 |(v1,v2)=>bif ltB v1 (a1.length:Int) then(YL (ix a1 v1) λx6=>YL (eA a0 [v1]) λr7=>bif dh 1 (v2++[IntKind.u8.wrap (YN (WR ((WR (x6))+(YN r7 256))) 256)]).length then(some (.next (WR (v1+1),(v2++[IntKind.u8.wrap (YN (WR ((WR (x6))+(YN r7 256))) 256)])))) else none) else(some (.done v2))
def z8 (a0:Int) (a1:List Int):Option (List Int):=
 YL (iter (wl a0 a1) FU (0,([]:List Int))) λ(v5:List Int)=>some v5
theorem LG {a0:Int} {a1:List Int} {r:List Int} (H:z8 a0 a1=some r):Fn prog 358 [aI a0,aL (a1.map eU8)] [.c (.own 5 1 (r.map eU8) r.length)]:=by
 refine fI func358 ntmps358 ?_
 refine aa H λv5 Hj H=>jB ⟨[(5,.v (.c (.w 0 v5.length)))],[(0,w5 v5)],1⟩ ?_ ?_
 .refine iT Hj (λq=>⟨[(0,tI a0),(1,.v (.c (.d false (.l (a1.map eU8))))),(5,.v (.c (.w 0 q.2.length))),(6,tI q.1)],[(0,w5 q.2)],1⟩) ?_
  rintro⟨v1,v2⟩ o H
  try dsimp only
  refine wI ?_
  refine cC H ?_ ?_<;>intro H
  .refine ua [0,1,2,3,4,5,6,7,8,9,10,11,12,13,14,15,16] (h:=?_)
   refine wkb ?_
   refine aa H λx6 hx6 H=>lM rfl (xdT (enc:=eU8) hx6) ?_
   refine wkb ?_
   refine B5 rfl (bsx (bs rfl rfl rfl rfl rfl rfl rfl rfl) rfl) ?_
   refine wkb ?_
   refine aa H λr7 q7 H=>lM rfl (ca (hF:=eu q7)) ?_
   refine wkb ?_
   refine lM rfl (ir rfl rfl rfl (by decide)) ?_
   refine wkb ?_
   refine lM rfl (ir rfl rfl rfl (by decide)) ?_
   refine wkb ?_
   refine lM rfl (bs rfl rfl rfl rfl rfl rfl rfl rfl) ?_
   refine wkb ?_
   obtain⟨h,H⟩:=rq H
   refine B5 rfl (EU (enc:=eU8) (ys:=v2) (zs:=[IntKind.u8.wrap (YN (WR ((WR (x6))+(YN r7 256))) 256)]) [0,2] h) ?_
   refine wkb ?_
   refine lD (ds:=[0]) (by kernel_rfl) (by kernel_rfl) rfl ?_
   refine wI ?_
   cases H
   refine dy ?_
   refine ay (wS 0 3) ?_
   exact wo
  cases H
  refine dF (λhq=>?_)
  cases hq
  refine wI ?_
  exact wo
 exact ao H
def km (a0:dx) (a1:Int):Option Int:=
 YL (eA 29 [a0.du,a0.bK,a1]) λr1=>some r1
theorem tJ {a0:dx} {a1:Int} {r:Int} (H:km a0 a1=some r):Fn prog 336 [.agg (qw a0),aI a1] [.c (.d (.i .i64 r))]:=by
 refine fI func336 ntmps336 ?_
 refine aa H λr1 q1 H=>nA (ca (hF:=eu q1)) ?_
 exact ao H
def iA (a0:ab) (a1:Int) (a2:bh):Option ab:=
 YL (ix a0.an a1) λx1=>YL (kt {a0 with an:=(a0.an.set (a1).toNat a2.bv)} a1 true a2.dX) λr2=>some r2
theorem nD {a0:ab} {a1:Int} {a2:bh} {r:ab} (H:iA a0 a1 a2=some r):FnV prog 297 (nS a0) [tP 200,tI a1,.v (.agg (kM [.t,.t,.t] (cL a2)))] (nS r) (.tup []) []:=by
 refine fV func297 ntmps297 ?_
 refine zI (hV 9) ?_
 refine aa H λx1 hx1 H=>zA (oY hx1) ?_
 refine zB (kw 190 (hne:=vT (enc:=cI) hx1)) (hP rfl (soT (enc:=cI) (a':=a2.bv) hx1)) bW ?_
 refine aa H λr2 q2 H=>bH (dS 190) ?_
 refine bH (wB 190 ((a0.an.set (a1).toNat a2.bv).length)) ?_
 refine sA (cwu m0 [] 211 (ta q2)) ?_
 cases H
 exact vI
def B0 (r5:cP×List Int):(Int×List aH)->Option (cf (Int×List aH) (List aH))
 |(v6,v7)=>bif ltB v6 (r5.2.length:Int) then(YL (ix r5.2 v6) λx10=>bif dh 88 (v7++[{d6 with aV:=7,bg:=x10}]).length then(some (.next (WR (v6+1),(v7++[{d6 with aV:=7,bg:=x10}])))) else none) else(some (.done v7))
def wP (a0:ah) (a1:am) (a2:aM):Option bY:=
 YL (qU a0 a1) λr1=>YL (cO a0.bg 0 (WR ((a2.aR.length:Int)-1))) λr2=>YL (bif r2 then(YL (ix a2.aR a0.bg) λx4=>some x4.fB) else(some 0)) λ(v3:Int)=>YL (sq {a0.gZ with fB:=v3} a2) λr5=>YL (iter (B0 r5) FU (0,r1.jZ)) λ(v9:List aH)=>some {r1 with aP:={r1.aP with gZ:=r5.1},jZ:=v9}
theorem EA {a0:ah} {a1:am} {a2:aM} {r:bY} (H:wP a0 a1 a2=some r):Fn prog 344 [.agg (bB a0),.agg (cp a1),.agg (gI a2)] [.agg (qM [.o,.o,.o,.o,.o,.o] (cB r))]:=by
 refine fI func344 ntmps344 ?_
 refine aa H λr1 q1 H=>nA (ca (hF:=yX q1)) ?_
 refine aa H λr2 q2 H=>nA (ca (hF:=bT q2)) ?_
 refine aa H λv3 Hj H=>jA ⟨[(5,tP 2),(6,tP 3),(7,tP 10),(8,tP 11)],(oM [.w 4,.w 5,.w 6,.w 7,.w 8,.w 9] 10 188 (cB r1)++[(2,.var 26 [.d false (.l (a2.aR.map cQ))]),(3,.var 188 (kM [.z,.z,.z,.z,.z,.z] (cB dr))),(11,.var 61 (kM [] (lg {a0.gZ with fB:=v3})))]),12⟩ ?_ ?_
 .refine cC Hj ?_ ?_<;>intro H
  .refine aa H λx4 hx4 H=>nA (xdT (enc:=cQ) hx4) ?_
   exact ai H
  exact ai H
 refine aa H λr5 q5 H=>nA (ca (hF:=Fu q5)) ?_
 refine aa H λv9 Hj H=>jB ⟨[(6,tP 3),(7,tP 10)],(oM [.w 4,.w 5,.w 6,.w 7,.w 8,.w 9] 10 188 (cB {r1 with aP:={r1.aP with gZ:=r5.1},jZ:=v9})++[(3,.var 188 (kM [.z,.z,.z,.z,.z,.z] (cB dr)))]),11⟩ ?_ ?_
 .refine iT Hj (λq=>⟨[(6,tP 3),(7,tP 10),(10,.v (.c (.w 12 r5.2.length))),(11,tI q.1)],(oM [.w 4,.w 5,.w 6,.w 7,.w 8,.w 9] 10 188 (cB {r1 with aP:={r1.aP with gZ:=r5.1},jZ:=q.2})++[(3,.var 188 (kM [.z,.z,.z,.z,.z,.z] (cB dr))),(12,w3 r5.2)]),13⟩) ?_
  rintro⟨v6,v7⟩ o H
  try dsimp only
  refine wI ?_
  refine cC H ?_ ?_<;>intro H
  .refine zI (hV 11) ?_
   refine aa H λx10 hx10 H=>zA (xwT hx10) ?_
   refine zA (oe (he:=gm _ hx10)) ?_
   obtain⟨h,H⟩:=rq H
   refine zB bW (hP rfl (apT (enc:=ey) (ys:=v7) (zs:=[{d6 with aV:=7,bg:=x10}]) h)) bW ?_
   refine wA (spx 100358) ?_
   cases H
   refine dy ?_
   exact wo
  cases H
  refine dF (λhq=>?_)
  cases hq
  refine wI ?_
  exact wo
 exact ao H
def pW (a0:ah) (a1:am) (a2:Int):Option (ah×am):=
 YL (ip a0) λr1=>YL (nf a0 a2) λr2=>bif leB r2 0 then(YL (lA a1) λr3=>some (r1,r3)) else(YL (D9 r2 a0.g7.eg) λr4=>YL (oB a1 a0.bM r4) λr5=>some ({r1 with bM:=r5.2},r5.1))
theorem D7 {a0:ah} {a1:am} {a2:Int} {r:ah×am} (H:pW a0 a1 a2=some r):Fn prog 364 [.agg (bB a0),.agg (cp a1),aI a2] [.agg (qM [.o,.o,.o] (b8 r.1)),.agg (qM [.o] (cG r.2))]:=by
 refine fI func364 ntmps364 ?_
 refine aa H λr1 q1 H=>nA (ca (hF:=gW q1)) ?_
 refine aa H λr2 q2 H=>nA (ca (hF:=ww q2)) ?_
 refine cC H ?_ ?_<;>intro H
 .refine zI (hV 5) ?_
  refine aa H λr3 q3 H=>zA (ca (hF:=lU q3)) ?_
  refine wA (spx 100374) ?_
  refine wA (spx 100373) ?_
  exact ao H
 refine zI (hV 16) ?_
 refine aa H λr4 q4 H=>zA (ca (hF:=Be q4)) ?_
 refine aa H λr5 q5 H=>zA (ca (hF:=Cl q5)) ?_
 refine wA (spx 100378) ?_
 refine wA (spx 100377) ?_
 refine zI (hV 4) ?_
 refine wA (spx 100376) ?_
 refine wA (spx 100375) ?_
 exact ao H
def uB (a0:aD):Option aD:=
 YL (jy a0) λr1=>YL (bif eqB a0.bu 2 then(some 3) else(some r1.bu)) λ(v2:Int)=>some {r1 with bu:=v2}
theorem HU {a0:aD} {r:aD} (H:uB a0=some r):Fn prog 304 [.agg (cI a0)] [.agg (qM [.o,.o] (db r))]:=by
 refine fI func304 ntmps304 ?_
 refine aa H λr1 q1 H=>nA (ca (hF:=jh q1)) ?_
 refine aa H λv2 Hj H=>jA ⟨[(2,tP 1),(3,tP 4)],(oM [.w 2,.w 3] 4 86 (db {r1 with bu:=v2})++[(1,.var 86 (kM [.z,.z] (db w6)))]),5⟩ ?_ ?_
 .refine cC Hj ?_ ?_<;>intro H
  .exact ai H
  exact ai H
 exact ao H
def xq (a0:ah):Option ah:=
 YL (ip a0) λr1=>some {r1 with aF:=cz,bF:=0,d9:=0,gZ:=fk,d7:=0}
theorem J8 {a0:ah} {r:ah} (H:xq a0=some r):Fn prog 306 [.agg (bB a0)] [.agg (qM [.o,.o,.o] (b8 r))]:=by
 refine fI func306 ntmps306 ?_
 refine aa H λr1 q1 H=>nA (ca (hF:=gW q1)) ?_
 exact ao H
def mR (a0:ab) (a1:Int):Option Bool:=
 YL (AD a0 a1) λr1=>YL (bif r1 then(YL (ix a0.an a1) λx3=>YL (ix a0.aj a1) λx4=>YL (rT x3.bI.aQ x4.aA) λr5=>some r5) else(some false)) λ(v2:Bool)=>some v2
theorem xR {a0:ab} {a1:Int} {r:Bool} (H:mR a0 a1=some r):Fn prog 66 [.agg (eD a0),aI a1] [.c (.d (.b r))]:=by
 refine fI func66 ntmps66 ?_
 refine dI ?_
 refine aa H λr1 q1 H=>dA (ca (hF:=Gy q1)) ?_
 refine aa H λv2 Hj H=>et ⟨[(4,tB v2)],[],0⟩ ?_ ?_
 .have H:=Hj
  refine wI ?_
  refine dC H ?_ ?_<;>intro H
  .refine aa H λx3 hx3 H=>dG (xdT (enc:=cI) hx3) ?_
   refine aa H λx4 hx4 H=>dG (xdT (enc:=bB) hx4) ?_
   refine aa H λr5 q5 H=>dG (ca (hF:=Fo q5)) ?_
   refine wI ?_
   exact ai H
  refine wI ?_
  exact ai H
 refine wI ?_
 exact ao H
def kY (a0:ab) (a1:Int):Option Bool:=
 YL (oU a0 a1) λr1=>YL (bif r1 then(YL (ow a0 a1) λr3=>YL (ix a0.aj a1) λx4=>YL (ix a0.aj a1) λx5=>YL (fX x5) λr6=>YL (ov x4 r6) λr7=>some (eqB r3 r7)) else(some false)) λ(v2:Bool)=>some v2
theorem vl {a0:ab} {a1:Int} {r:Bool} (H:kY a0 a1=some r):Fn prog 67 [.agg (eD a0),aI a1] [.c (.d (.b r))]:=by
 refine fI func67 ntmps67 ?_
 refine dI ?_
 refine aa H λr1 q1 H=>dA (ca (hF:=yl q1)) ?_
 refine aa H λv2 Hj H=>et ⟨[(4,tB v2)],[],0⟩ ?_ ?_
 .have H:=Hj
  refine wI ?_
  refine dC H ?_ ?_<;>intro H
  .refine aa H λr3 q3 H=>dG (ca (hF:=Cg q3)) ?_
   refine aa H λx4 hx4 H=>dG (xdT (enc:=bB) hx4) ?_
   refine aa H λx5 hx5 H=>dG (xdT (enc:=bB) hx5) ?_
   refine aa H λr6 q6 H=>dG (ca (hF:=mQ q6)) ?_
   refine aa H λr7 q7 H=>dG (ca (hF:=Cf q7)) ?_
   refine wI ?_
   exact ai H
  refine wI ?_
  exact ai H
 refine wI ?_
 exact ao H
end Go.AM
