/- A part. -/
import Derived.Test.YtbfpkbncbebapaaGreatS3
set_option linter.unusedVariables false
open Option renaming bind->YL
open List renaming range->hV,cons_ne_nil->YM
namespace Go.AM
open Go.Proofs
open Tryz
attribute [local irreducible] AWN NS AWO AWR AWC DR dQ gQ
set_option maxRecDepth 100000
set_option maxHeartbeats 40000000
def lv (a0:ah) (a1:List Int):Option (ah×Bool):=
 YL (ip a0) λr1=>YL (bif leB 24 (a0.aA.length:Int) then(some true) else(some (ltB 60 (a1.length:Int)))) λ(v2:Bool)=>bif v2 then(some (r1,false)) else(YL (Ew a1) λr3=>bif dh 24 (r1.aA++[r3]).length then(some ({r1 with aA:=(r1.aA++[r3])},true)) else none)
theorem vb {a0:ah} {a1:List Int} {r:ah×Bool} (H:lv a0 a1=some r):Fn prog 139 [.agg (bB a0),aL (a1.map eU8)] [.agg (qM [.o,.o,.o] (b8 r.1)),.c (.d (.b r.2))]:=by
 refine fI func139 ntmps139 ?_
 refine aa H λr1 q1 H=>nA (ca (hF:=gW q1)) ?_
 refine aa H λv2 Hj H=>jR ⟨[(1,.v (.c (.d false (.l (a1.map eU8))))),(4,tP 1),(6,tP 5),(17,tB v2)],(oM [.w 2,.w 3,.w 4] 5 69 (b8 r1)++[(1,.var 69 (kM [.z,.z,.z] (b8 qh)))]),6⟩ ?_ ?_
 .refine gC Hj ?_ ?_<;>intro H
  .exact ai H
  exact ai H
 refine cC H ?_ ?_<;>intro H
 .exact ao H
 refine zI (hV 8) ?_
 refine aa H λr3 q3 H=>zA (ca (hF:=(LX q3).frzs (by repeat (first|exact trivial|refine⟨?_,?_⟩|exact lm _|rfl)))) ?_
 obtain⟨h,H⟩:=rq H
 refine zB bW (hP rfl (apT (enc:=cd) (ys:=r1.aA) (zs:=[r3]) h)) bW ?_
 refine wA (spx 100076) ?_
 exact ao H
def qR (a0:aD):Option bh:=
 YL (jy a0) λr1=>some (⟨r1,([]:List aH)⟩:bh)
theorem uI {a0:aD} {r:bh} (H:qR a0=some r):Fn prog 217 [.agg (cI a0)] [.agg (qM [.o,.o,.o] (cL r))]:=by
 refine fI func217 ntmps217 ?_
 refine aa H λr1 q1 H=>nA (ca (hF:=jh q1)) ?_
 cases H
 refine cU (wB 4 (([]:List aH).length)) ?_
 exact dT
def sD (a0:ab):(Int×List aD)->Option (cf (Int×List aD) (List aD))
 |(v2,v3)=>bif ltB v2 (a0.an.length:Int) then(YL (ix a0.an v2) λx7=>YL (jy x7) λr8=>bif dh 144 (v3++[r8]).length then(some (.next (WR (v2+1),(v3++[r8])))) else none) else(some (.done v3))
def sE (a0:ab):(Int×List ah)->Option (cf (Int×List ah) (List ah))
 |(v9,v10)=>bif ltB v9 (a0.aj.length:Int) then(YL (ix a0.aj v9) λx14=>YL (ip x14) λr15=>bif dh 288 (v10++[r15]).length then(some (.next (WR (v9+1),(v10++[r15])))) else none) else(some (.done v10))
def sF (a0:ab):(Int×List am)->Option (cf (Int×List am) (List am))
 |(v16,v17)=>bif ltB v16 (a0.bi.length:Int) then(YL (ix a0.bi v16) λx21=>YL (lA x21) λr22=>bif dh 48 (v17++[r22]).length then(some (.next (WR (v16+1),(v17++[r22])))) else none) else(some (.done v17))
def sH (a0:ab):(Int×List bD)->Option (cf (Int×List bD) (List bD))
 |(v23,v24)=>bif ltB v23 (a0.aN.length:Int) then(YL (ix a0.aN v23) λx28=>YL (qV x28) λr29=>bif dh 176 (v24++[r29]).length then(some (.next (WR (v23+1),(v24++[r29])))) else none) else(some (.done v24))
def wR (a0:ab):Option ab:=
 YL (oS a0.d8) λr1=>YL (iter (sD a0) FU (0,([]:List aD))) λ(v6:List aD)=>YL (iter (sE a0) FU (0,([]:List ah))) λ(v13:List ah)=>YL (iter (sF a0) FU (0,([]:List am))) λ(v20:List am)=>YL (iter (sH a0) FU (0,([]:List bD))) λ(v27:List bD)=>some (⟨r1,v6,v13,v20,v27,a0.cZ,a0.cq,a0.oZ,a0.kT⟩:ab)
theorem EC {a0:ab} {r:ab} (H:wR a0=some r):FnV prog 159 [] [.v (.agg (kM [.f,.f,.f,.f,.f] (aJ a0)))] [] (.v (.agg (kM [.t,.n 210,.n 211,.n 212,.n 213] (aJ r)))) [(210,n86 r.an),(211,n69 r.aj),(212,n89 r.bi),(213,n48 r.aN)]:=by
 refine fV func159 ntmps159 ?_
 refine zI (hV 14) ?_
 refine aa H λr1 q1 H=>zA (ca (hF:=LR q1)) ?_
 refine wA (spx 100306) ?_
 refine aa H λv6 Hj H=>jB ⟨[(1,tP 210),(2,tP 211),(3,tP 212)],(oM [.t,.n 213,.z,.z,.z] 212 34 (aJ (⟨r1,v6,[],[],[],a0.cZ,a0.cq,a0.oZ,a0.kT⟩:ab))++[(210,.var 34 (kM [.f,.f,.f,.f,.f] (aJ a0))),(211,.var 34 (kM [.z,.z,.z,.z,.z] (aJ {dL with d8:=(⟨[]⟩:aM)})))]),214⟩ ?_ ?_
 .refine iT Hj (λq=>⟨[(1,tP 210),(2,tP 211),(3,tP 212),(4,tI q.1)],(oM [.t,.n 213,.z,.z,.z] 212 34 (aJ (⟨r1,q.2,[],[],[],a0.cZ,a0.cq,a0.oZ,a0.kT⟩:ab))++[(210,.var 34 (kM [.f,.f,.f,.f,.f] (aJ a0))),(211,.var 34 (kM [.z,.z,.z,.z,.z] (aJ {dL with d8:=(⟨[]⟩:aM)})))]),214⟩) ?_ (by refine ay (dE (o:=212) (j:=1) 86 14 true) ?_;refine ay (wB 213 (([]:List aD).length)) ?_;exact wo)
  rintro⟨v2,v3⟩ o H
  try dsimp only
  refine wI ?_
  refine cC H ?_ ?_<;>intro H
  .refine zI (hV 12) ?_
   refine aa H λx7 hx7 H=>zA (xdT (enc:=cI) hx7) ?_
   refine aa H λr8 q8 H=>zA (ca (hF:=(jh q8).frzs (by repeat (first|exact trivial|refine⟨?_,?_⟩|exact lm _|rfl)))) ?_
   obtain⟨h,H⟩:=rq H
   refine zB bW (hP rfl (B4 (enc:=cI) (ys:=v3) (zs:=[r8]) h (by first|exact YM _ _|simp) rfl (λ_=>rfl) (by first|rfl|simp) (.w rfl (by first|rfl|exact lm _|simp)) rfl rfl rfl rfl rfl rfl rfl rfl rfl rfl)) bW ?_
   refine wA (spx 100290) ?_
   cases H
   refine dy ?_
   refine ay (dS 213) ?_
   exact wo
  cases H
  refine dF (λhq=>?_)
  cases hq
  refine wI ?_
  exact wo
 refine aa H λv13 Hj H=>jB ⟨[(1,tP 210),(2,tP 211),(3,tP 212)],(oM [.t,.n 213,.n 214,.z,.z] 212 34 (aJ (⟨r1,v6,v13,[],[],a0.cZ,a0.cq,a0.oZ,a0.kT⟩:ab))++[(210,.var 34 (kM [.f,.f,.f,.f,.f] (aJ a0))),(211,.var 34 (kM [.z,.z,.z,.z,.z] (aJ {dL with d8:=(⟨[]⟩:aM)})))]),215⟩ ?_ ?_
 .refine iT Hj (λq=>⟨[(1,tP 210),(2,tP 211),(3,tP 212),(5,tI q.1)],(oM [.t,.n 213,.n 214,.z,.z] 212 34 (aJ (⟨r1,v6,q.2,[],[],a0.cZ,a0.cq,a0.oZ,a0.kT⟩:ab))++[(210,.var 34 (kM [.f,.f,.f,.f,.f] (aJ a0))),(211,.var 34 (kM [.z,.z,.z,.z,.z] (aJ {dL with d8:=(⟨[]⟩:aM)})))]),215⟩) ?_ (by refine ay (dE (o:=212) (j:=2) 69 30 true) ?_;refine ay (wB 214 (([]:List ah).length)) ?_;exact wo)
  rintro⟨v9,v10⟩ o H
  try dsimp only
  refine wI ?_
  refine cC H ?_ ?_<;>intro H
  .refine zI (hV 12) ?_
   refine aa H λx14 hx14 H=>zA (xdT (enc:=bB) hx14) ?_
   refine aa H λr15 q15 H=>zA (ca (hF:=(gW q15).frzs (by repeat (first|exact trivial|refine⟨?_,?_⟩|exact lm _|rfl)))) ?_
   obtain⟨h,H⟩:=rq H
   refine zB bW (hP rfl (B4 (enc:=bB) (ys:=v10) (zs:=[r15]) h (by first|exact YM _ _|simp) rfl (λ_=>rfl) (by first|rfl|simp) (.w rfl (by first|rfl|exact lm _|simp)) rfl rfl rfl rfl rfl rfl rfl rfl rfl rfl)) bW ?_
   refine wA (spx 100295) ?_
   cases H
   refine dy ?_
   refine ay (dS 214) ?_
   exact wo
  cases H
  refine dF (λhq=>?_)
  cases hq
  refine wI ?_
  exact wo
 refine aa H λv20 Hj H=>jB ⟨[(1,tP 210),(2,tP 211),(3,tP 212)],(oM [.t,.n 213,.n 214,.n 215,.z] 212 34 (aJ (⟨r1,v6,v13,v20,[],a0.cZ,a0.cq,a0.oZ,a0.kT⟩:ab))++[(210,.var 34 (kM [.f,.f,.f,.f,.f] (aJ a0))),(211,.var 34 (kM [.z,.z,.z,.z,.z] (aJ {dL with d8:=(⟨[]⟩:aM)})))]),216⟩ ?_ ?_
 .refine iT Hj (λq=>⟨[(1,tP 210),(2,tP 211),(3,tP 212),(6,tI q.1)],(oM [.t,.n 213,.n 214,.n 215,.z] 212 34 (aJ (⟨r1,v6,v13,q.2,[],a0.cZ,a0.cq,a0.oZ,a0.kT⟩:ab))++[(210,.var 34 (kM [.f,.f,.f,.f,.f] (aJ a0))),(211,.var 34 (kM [.z,.z,.z,.z,.z] (aJ {dL with d8:=(⟨[]⟩:aM)})))]),216⟩) ?_ (by refine ay (dE (o:=212) (j:=3) 89 4 true) ?_;refine ay (wB 215 (([]:List am).length)) ?_;exact wo)
  rintro⟨v16,v17⟩ o H
  try dsimp only
  refine wI ?_
  refine cC H ?_ ?_<;>intro H
  .refine zI (hV 12) ?_
   refine aa H λx21 hx21 H=>zA (xdT (enc:=cp) hx21) ?_
   refine aa H λr22 q22 H=>zA (ca (hF:=(lU q22).frzs (by repeat (first|exact trivial|refine⟨?_,?_⟩|exact lm _|rfl)))) ?_
   obtain⟨h,H⟩:=rq H
   refine zB bW (hP rfl (B4 (enc:=cp) (ys:=v17) (zs:=[r22]) h (by first|exact YM _ _|simp) rfl (λ_=>rfl) (by first|rfl|simp) (.w rfl (by first|rfl|exact lm _|simp)) rfl rfl rfl rfl rfl rfl rfl rfl rfl rfl)) bW ?_
   refine wA (spx 100300) ?_
   cases H
   refine dy ?_
   refine ay (dS 215) ?_
   exact wo
  cases H
  refine dF (λhq=>?_)
  cases hq
  refine wI ?_
  exact wo
 refine aa H λv27 Hj H=>jB ⟨[(2,tP 211),(3,tP 212)],(oM [.t,.n 213,.n 214,.n 215,.n 216] 212 34 (aJ (⟨r1,v6,v13,v20,v27,a0.cZ,a0.cq,a0.oZ,a0.kT⟩:ab))++[(211,.var 34 (kM [.z,.z,.z,.z,.z] (aJ {dL with d8:=(⟨[]⟩:aM)})))]),217⟩ ?_ ?_
 .refine iT Hj (λq=>⟨[(1,tP 210),(2,tP 211),(3,tP 212),(7,tI q.1)],(oM [.t,.n 213,.n 214,.n 215,.n 216] 212 34 (aJ (⟨r1,v6,v13,v20,q.2,a0.cZ,a0.cq,a0.oZ,a0.kT⟩:ab))++[(210,.var 34 (kM [.f,.f,.f,.f,.f] (aJ a0))),(211,.var 34 (kM [.z,.z,.z,.z,.z] (aJ {dL with d8:=(⟨[]⟩:aM)})))]),217⟩) ?_ (by refine ay (dE (o:=212) (j:=4) 48 21 true) ?_;refine ay (wB 216 (([]:List bD).length)) ?_;exact wo)
  rintro⟨v23,v24⟩ o H
  try dsimp only
  refine wI ?_
  refine cC H ?_ ?_<;>intro H
  .refine zI (hV 12) ?_
   refine aa H λx28 hx28 H=>zA (xdT (enc:=dv) hx28) ?_
   refine aa H λr29 q29 H=>zA (ca (hF:=(Ax q29).frzs (by repeat (first|exact trivial|refine⟨?_,?_⟩|exact lm _|rfl)))) ?_
   obtain⟨h,H⟩:=rq H
   refine zB bW (hP rfl (B4 (enc:=dv) (ys:=v24) (zs:=[r29]) h (by first|exact YM _ _|simp) rfl (λ_=>rfl) (by first|rfl|simp) (.w rfl (by first|rfl|exact lm _|simp)) rfl rfl rfl rfl rfl rfl rfl rfl rfl rfl)) bW ?_
   refine wA (spx 100305) ?_
   cases H
   refine dy ?_
   refine ay (dS 216) ?_
   exact wo
  cases H
  refine dF (λhq=>?_)
  cases hq
  refine wI ?_
  exact wo
 cases H
 refine bV (wS 213 210) ?_
 refine bV (wS 214 211) ?_
 refine bV (wS 215 212) ?_
 refine bV (wS 216 213) ?_
 exact bO
def mT (a0:aD):Option Bool:=
 YL (cO a0.bu 2 3) λr1=>YL (bif r1 then(YL (gD a0.aO) λr3=>some (!r3)) else(some false)) λ(v2:Bool)=>bif v2 then(some false) else(YL (mZ a0.c9) λr4=>YL (bif r4 then(YL (cO a0.bu 0 3) λr6=>bif r6 then(YL (cO a0.bg 0 5) λr7=>bif r7 then(YL (cO a0.ag 0 999999) λr8=>bif r8 then(YL (cO a0.a9 0 999999) λr9=>bif r9 then(YL (cO a0.aO 0 2147483646) λr10=>bif r10 then(YL (cO a0.f5 0 3) λr11=>bif r11 then(YL (iS a0.bI) λr12=>some r12) else(some false)) else(some false)) else(some false)) else(some false)) else(some false)) else(some false)) else(some false)) λ(v5:Bool)=>some v5)
theorem Bc {a0:aD} {r:Bool} (H:mT a0=some r):Fn prog 203 [.agg (cI a0)] [.c (.d (.b r))]:=by
 refine fI func203 ntmps203 ?_
 refine aa H λr1 q1 H=>nA (ca (hF:=bT q1)) ?_
 refine aa H λv2 Hj H=>jR ⟨[(1,tP 0),(11,tB v2)],[(0,.var 86 (kM [.f,.f] (db a0)))],1⟩ ?_ ?_
 .refine gC Hj ?_ ?_<;>intro H
  .refine aa H λr3 q3 H=>nG (ca (hF:=iz q3)) ?_
   exact ai H
  exact ai H
 refine cC H ?_ ?_<;>intro H
 .exact ao H
 refine aa H λr4 q4 H=>nA (ca (hF:=wq q4)) ?_
 refine aa H λv5 Hj H=>jR ⟨[(2,tB v5)],[],0⟩ ?_ ?_
 .refine gC Hj ?_ ?_<;>intro H
  .refine aa H λr6 q6 H=>nG (ca (hF:=bT q6)) ?_
   refine gC H ?_ ?_<;>intro H
   .refine aa H λr7 q7 H=>nG (ca (hF:=bT q7)) ?_
    refine gC H ?_ ?_<;>intro H
    .refine aa H λr8 q8 H=>nG (ca (hF:=bT q8)) ?_
     refine gC H ?_ ?_<;>intro H
     .refine aa H λr9 q9 H=>nG (ca (hF:=bT q9)) ?_
      refine gC H ?_ ?_<;>intro H
      .refine aa H λr10 q10 H=>nG (ca (hF:=bT q10)) ?_
       refine gC H ?_ ?_<;>intro H
       .refine aa H λr11 q11 H=>nG (ca (hF:=bT q11)) ?_
        refine gC H ?_ ?_<;>intro H
        .refine aa H λr12 q12 H=>nG (ca (hF:=qJ q12)) ?_
         exact ai H
        exact ai H
       exact ai H
      exact ai H
     exact ai H
    exact ai H
   exact ai H
  exact ai H
 exact ao H
def jH (a0:ah):Int->Option (cf (Int) (Bool))
 |v5=>bif ltB v5 (a0.aw.az.length:Int) then(YL (ix a0.aw.az v5) λx6=>YL (ix a0.aA (WR (x6.cV-1))) λx7=>YL (lZ x6.aS x7.aS) λr8=>bif !r8 then(dn (some false)) else(some (.next (WR (v5+1))))) else(dn (YL (oh a0.aw.az) λr9=>YL (ju a0.bM) λr10=>some (leB r9 r10)))
def oD (a0:ah):Int->Option (cf (Int) (Bool))
 |v1=>bif ltB v1 (a0.aA.length:Int) then(YL (ix a0.aA v1) λx2=>bif ltB 60 (x2.aS.length:Int) then(dn (some false)) else(some (.next (WR (v1+1))))) else(dn (YL (bif ltB 24 (a0.aA.length:Int) then(some true) else(YL (ko a0.aw) λr4=>bif !r4 then(some true) else(some (ltB (WR ((a0.aA.length:Int)+1)) a0.aw.bz)))) λ(v3:Bool)=>bif v3 then(some false) else(iter (jH a0) FU 0)))
def uL (a0:ah):Option Bool:=
 iter (oD a0) FU 0
theorem Ib {a0:ah} {r:Bool} (H:uL a0=some r):Fn prog 270 [.agg (bB a0)] [.c (.d (.b r))]:=by
 refine fI func270 ntmps270 ?_
 refine iT H (λq=>⟨[(1,tP 0),(3,tI q)],[(0,.var 69 (kM [.f,.f,.f] (b8 a0)))],1⟩) ?_
 rintro v1 o H
 try dsimp only
 refine wI ?_
 refine cC H ?_ ?_<;>intro H
 .refine aa H λx2 hx2 H=>nA (xdT (enc:=cd) hx2) ?_
  refine cC H ?_ ?_<;>intro H
  .obtain⟨r0,Hd,rfl⟩:=dnE H
   refine f6 (λhq=>?_)
   have H:=Hd.trans (congrArg some hq)
   refine wI ?_
   exact ao H
  cases H
  refine dy ?_
  exact wo
 obtain⟨r0,Hd,rfl⟩:=dnE H
 refine dF (λhq=>?_)
 have H:=Hd.trans (congrArg some hq)
 refine wI ?_
 refine aa H λv3 Hj H=>jR ⟨[(1,tP 0),(40,tB v3)],[(0,.var 69 (kM [.f,.f,.f] (b8 a0)))],1⟩ ?_ ?_
 .refine gC Hj ?_ ?_<;>intro H
  .exact ai H
  refine aa H λr4 q4 H=>nG (ca (hF:=n9 q4)) ?_
  refine gC H ?_ ?_<;>intro H
  .exact ai H
  exact ai H
 refine cC H ?_ ?_<;>intro H
 .exact ao H
 refine iT H (λq=>⟨[(1,tP 0),(4,tI q)],[(0,.var 69 (kM [.f,.f,.f] (b8 a0)))],1⟩) ?_
 rintro v5 o H
 try dsimp only
 refine wI ?_
 refine cC H ?_ ?_<;>intro H
 .refine aa H λx6 hx6 H=>nA (xdT (enc:=av) hx6) ?_
  refine dI ?_
  refine aa H λx7 hx7 H=>dA (xdT (enc:=cd) hx7) ?_
  refine aa H λr8 q8 H=>dA (ca (hF:=s7 q8)) ?_
  refine wI ?_
  refine cC H ?_ ?_<;>intro H
  .obtain⟨r0,Hd,rfl⟩:=dnE H
   refine f6 (λhq=>?_)
   have H:=Hd.trans (congrArg some hq)
   refine wI ?_
   exact ao H
  cases H
  refine dy ?_
  exact wo
 obtain⟨r0,Hd,rfl⟩:=dnE H
 refine dF (λhq=>?_)
 have H:=Hd.trans (congrArg some hq)
 refine wI ?_
 refine dI ?_
 refine aa H λr9 q9 H=>dA (ca (hF:=sC q9)) ?_
 refine aa H λr10 q10 H=>dA (ca (hF:=sh q10)) ?_
 refine wI ?_
 exact ao H
def nC (a0:bD) (a1:bD):Option Bool:=
 YL (bif eqB a0.bv a1.bv then(bif booB a0.em a1.em then(bif booB a0.dt a1.dt then(bif eqB a0.bg a1.bg then(bif(eqB a0.aY.aV a1.aY.aV&&(eqB a0.aY.bg a1.aY.bg&&(eqB a0.aY.ag a1.aY.ag&&(eqB a0.aY.a9 a1.aY.a9&&(eqB a0.aY.bK a1.aY.bK&&(eqB a0.aY.bP.fj a1.aY.bP.fj&&(eqB a0.aY.bP.hO a1.aY.bP.hO&&(eqB a0.aY.bP.iZ a1.aY.bP.iZ&&(eqB a0.aY.bP.vp a1.aY.bP.vp&&(eqB a0.aY.bP.eP a1.aY.bP.eP&&(eqB a0.aY.iZ a1.aY.iZ&&true))))))))))) then(YL (rR a0.cr a1.cr) λr2=>some r2) else(some false)) else(some false)) else(some false)) else(some false)) else(some false)) λ(v1:Bool)=>some v1
theorem Bq {a0:bD} {a1:bD} {r:Bool} (H:nC a0 a1=some r):Fn prog 100 [.agg (dv a0),.agg (dv a1)] [.c (.d (.b r))]:=by
 refine fI func100 ntmps100 ?_
 refine aa H λv1 Hj H=>jR ⟨[(4,tB v1)],[],0⟩ ?_ ?_
 .refine gC Hj ?_ ?_<;>intro H
  .refine gC H ?_ ?_<;>intro H
   .refine gC H ?_ ?_<;>intro H
    .refine gC H ?_ ?_<;>intro H
     .refine gC H ?_ ?_<;>intro H
      .refine aa H λr2 q2 H=>nG (ca (hF:=Fl q2)) ?_
       exact ai H
      exact ai H
     exact ai H
    exact ai H
   exact ai H
  exact ai H
 exact ao H
def eA (a0:Int) (a1:List Int):Option Int:=
 bif dh 8 ([a0]++a1).length then(bif dh 8 (([a0]++a1)++[a0]).length then(YL (NB (([a0]++a1)++[a0])) λr1=>some r1) else none) else none
theorem eu {a0:Int} {a1:List Int} {r:Int} (H:eA a0 a1=some r):Fn prog 186 [aI a0,aL (a1.map eI)] [.c (.d (.i .i64 r))]:=by
 refine fI func186 ntmps186 ?_
 obtain⟨h,H⟩:=rq H
 refine eX rfl (apT (enc:=eI) (ys:=[a0]) (zs:=a1) h) ?_
 refine aW (iX (enc:=eI) (o:=0)) ?_
 obtain⟨h,H⟩:=rq H
 refine sA (apT (enc:=eI) (ys:=([a0]++a1)) (zs:=[a0]) h) ?_
 refine aa H λr1 q1 H=>nA (ca (hF:=Ux q1)) ?_
 exact ao H
def xA (a0:aT):Option (Int×aT):=
 YL (im a0 10) λr1=>bif r1.1 then(YL (yV r1.2 [-1,2147483647,2147483648]) λr2=>some (r2.1,r2.2)) else(YL (im r1.2 4) λr3=>bif r3.1 then(YL (yV r3.2 [0,1,2147483646]) λr4=>some (r4.1,r4.2)) else(YL (co r3.2 1000000) λr5=>YL (co r5.2 2000) λr6=>some (WR (r5.1*r6.1),r6.2)))
theorem Bs {a0:aT} {r:Int×aT} (H:xA a0=some r):FnW prog 339 (.var 148 (kM [.f] (bS a0))) [tP 200] (.var 148 (kM [.f] (bS r.2))) [.c (.d (.i .i64 r.1))]:=by
 refine fW func339 ntmps339 ?_
 refine aa H λr1 q1 H=>sA (cw (o:=200) (ia q1)) ?_
 refine cC H ?_ ?_<;>intro H
 .refine aa H λr2 q2 H=>bH (aU (o:=210)) ?_
  refine bH (cj (k:=6)) ?_
  refine sA (cw (o:=200) (Ar q2)) ?_
  cases H
  exact fo
 refine aa H λr3 q3 H=>sA (cw (o:=200) (ia q3)) ?_
 refine cC H ?_ ?_<;>intro H
 .refine aa H λr4 q4 H=>bH (aU (o:=210)) ?_
  refine bH (cj (k:=11)) ?_
  refine sA (cw (o:=200) (Ar q4)) ?_
  cases H
  exact fo
 refine aa H λr5 q5 H=>sA (cw (o:=200) (bU q5)) ?_
 refine aa H λr6 q6 H=>sA (cw (o:=200) (bU q6)) ?_
 cases H
 exact fo
def If (a0:aT):Option (Int×aT):=
 YL (im a0 6) λr1=>bif r1.1 then(YL (yV r1.2 [0,999999,1000000,-1,998999]) λr2=>some (r2.1,r2.2)) else(YL (co r1.2 40) λr3=>some (r3.1,r3.2))
theorem Si {a0:aT} {r:Int×aT} (H:If a0=some r):FnW prog 359 (.var 148 (kM [.f] (bS a0))) [tP 200] (.var 148 (kM [.f] (bS r.2))) [.c (.d (.i .i64 r.1))]:=by
 refine fW func359 ntmps359 ?_
 refine aa H λr1 q1 H=>sA (cw (o:=200) (ia q1)) ?_
 refine cC H ?_ ?_<;>intro H
 .refine aa H λr2 q2 H=>bH (aU (o:=210)) ?_
  refine bH (cj (k:=6)) ?_
  refine sA (cw (o:=200) (Ar q2)) ?_
  cases H
  exact fo
 refine aa H λr3 q3 H=>sA (cw (o:=200) (bU q3)) ?_
 cases H
 exact fo
def ku (a1:Int) (a2:Bool) (a3:List aH):(Int×ab)->Option (cf (Int×ab) (ab))
 |(v1,v12)=>bif ltB v1 (a3.length:Int) then(YL (ix a3 v1) λx27=>YL (ix a3 v1) λx28=>YL (fC v12 (⟨a1,a2,false,x27.bg,x28,eC⟩:bD)) λr29=>some (.next (WR (v1+1),r29))) else(some (.done v12))
def kt (a0:ab) (a1:Int) (a2:Bool) (a3:List aH):Option ab:=
 YL (iter (ku a1 a2 a3) FU (0,a0)) λ(v26:ab)=>some v26
theorem ta {a0:ab} {a1:Int} {a2:Bool} {a3:List aH} {r:ab} (H:kt a0 a1 a2 a3=some r):FnV prog 300 (nS a0) [tP 200,tI a1,tB a2,.v (.c (.d true (.l (a3.map ey))))] (nS r) (.tup []) []:=by
 refine fV func300 ntmps300 ?_
 refine aa H λv26 Hj H=>jB ⟨[],(nS v26),210⟩ ?_ ?_
 .refine iT Hj (λq=>⟨[(0,tP 200),(1,tI a1),(2,tB a2),(3,.v (.c (.d true (.l (a3.map ey))))),(8,tI q.1)],(nS q.2),210⟩) ?_
  rintro⟨v1,v12⟩ o H
  try dsimp only
  refine wI ?_
  refine cC H ?_ ?_<;>intro H
  .refine zI (hV 14) ?_
   refine aa H λx27 hx27 H=>zA (xdT (enc:=ey) hx27) ?_
   refine aa H λx28 hx28 H=>zA (xdT (enc:=ey) hx28) ?_
   refine aa H λr29 q29 H=>zB bW (hP rfl (cwu m0 [] 210 (qX q29))) bW ?_
   cases H
   refine dy ?_
   exact wo
  cases H
  refine dF (λhq=>?_)
  cases hq
  refine wI ?_
  exact wo
 cases H
 exact vI
def qU (a0:ah) (a1:am):Option bY:=
 YL (ip a0) λr1=>YL (lA a1) λr2=>some {dr with aP:=r1,eo:=r2}
theorem yX {a0:ah} {a1:am} {r:bY} (H:qU a0 a1=some r):Fn prog 342 [.agg (bB a0),.agg (cp a1)] [.agg (qM [.o,.o,.o,.o,.o,.o] (cB r))]:=by
 refine fI func342 ntmps342 ?_
 refine zI (hV 8) ?_
 refine aa H λr1 q1 H=>zA (ca (hF:=gW q1)) ?_
 refine aa H λr2 q2 H=>zA (ca (hF:=lU q2)) ?_
 refine wA (spx 100336) ?_
 cases H
 refine cU (wB 7 (([]:List aH).length)) ?_
 refine cU (wB 8 (([]:List aC).length)) ?_
 exact dT
def pY (a0:am) (a1:cT):Option (am×cT):=
 YL (eY a0 a1) λr1=>bif !r1 then(YL (lA a0) λr2=>some (r2,a1)) else(YL (HT a0 a1.ax a1.ed) λr3=>some (r3.1,(⟨a1.ax,WR (a1.cH-a1.ed),0⟩:cT)))
theorem Ee {a0:am} {a1:cT} {r:am×cT} (H:pY a0 a1=some r):Fn prog 343 [.agg (cp a0),.agg (pG a1)] [.agg (qM [.o] (cG r.1)),.agg (qM [] (rp r.2))]:=by
 refine fI func343 ntmps343 ?_
 refine aa H λr1 q1 H=>nA (ca (hF:=jf q1)) ?_
 refine cC H ?_ ?_<;>intro H
 .refine zI (hV 5) ?_
  refine aa H λr2 q2 H=>zA (ca (hF:=lU q2)) ?_
  refine wA (spx 100346) ?_
  refine wA (spx 100345) ?_
  exact ao H
 refine aa H λr3 q3 H=>nA (ca (hF:=RT q3)) ?_
 refine zI (hV 11) ?_
 refine wA (spx 100348) ?_
 refine wA (spx 100347) ?_
 exact ao H
def nf (a0:ah) (a1:Int):Option Int:=
 YL (na a0) λr1=>YL (ju a0.bM) λr2=>YL (D9 0 (WR ((WR (r1+a1))-r2))) λr3=>some r3
theorem ww {a0:ah} {a1:Int} {r:Int} (H:nf a0 a1=some r):Fn prog 365 [.agg (bB a0),aI a1] [.c (.d (.i .i64 r))]:=by
 refine fI func365 ntmps365 ?_
 refine dI ?_
 refine aa H λr1 q1 H=>dA (ca (hF:=xS q1)) ?_
 refine aa H λr2 q2 H=>dA (ca (hF:=sh q2)) ?_
 refine aa H λr3 q3 H=>dA (ca (hF:=Be q3)) ?_
 refine wI ?_
 exact ao H
def oB (a0:am) (a1:cT) (a2:Int):Option (am×cT):=
 YL (Ac a0 a1.ax a2) λr1=>YL (eY a0 a1) λr2=>YL (bif !r2 then(some true) else(YL (gE {a1 with cH:=WR (a1.cH+r1.2)}) λr4=>some (!r4))) λ(v3:Bool)=>bif v3 then(YL (lA a0) λr5=>some (r5,a1)) else(some (r1.1,{a1 with cH:=WR (a1.cH+r1.2)}))
theorem Cl {a0:am} {a1:cT} {a2:Int} {r:am×cT} (H:oB a0 a1 a2=some r):Fn prog 378 [.agg (cp a0),.agg (pG a1),aI a2] [.agg (qM [.o] (cG r.1)),.agg (qM [] (rp r.2))]:=by
 refine fI func378 ntmps378 ?_
 refine aa H λr1 q1 H=>nA (ca (hF:=LJ q1)) ?_
 refine aa H λr2 q2 H=>nA (ca (hF:=jf q2)) ?_
 refine aa H λv3 Hj H=>jR ⟨[(3,tP 0),(4,tP 1),(6,tP 2),(7,tP 3),(8,tP 5),(10,tP 6),(33,tB v3)],(oM [.w 4] 5 89 (cG r1.1)++[(0,.var 89 (kM [.f] (cG a0))),(1,.var 67 (kM [] (rp a1))),(2,.var 89 (kM [.z] (cG kP))),(3,.var 67 (kM [] (rp CI))),(6,.var 67 (kM [] (rp {a1 with cH:=WR (a1.cH+r1.2)})))]),7⟩ ?_ ?_
 .refine gC Hj ?_ ?_<;>intro H
  .exact ai H
  refine aa H λr4 q4 H=>nG (ca (hF:=jr q4)) ?_
  exact ai H
 refine cC H ?_ ?_<;>intro H
 .refine zI (hV 5) ?_
  refine aa H λr5 q5 H=>zA (ca (hF:=lU q5)) ?_
  refine wA (spx 100364) ?_
  refine wA (spx 100363) ?_
  exact ao H
 refine zI (hV 4) ?_
 refine wA (spx 100366) ?_
 refine wA (spx 100365) ?_
 exact ao H
def ny (a0:ah):Option bR:=
 YL (ip a0) λr1=>some (⟨r1,([]:List aH)⟩:bR)
theorem oi {a0:ah} {r:bR} (H:ny a0=some r):Fn prog 368 [.agg (bB a0)] [.agg (qM [.o,.o,.o,.o] (eB r))]:=by
 refine fI func368 ntmps368 ?_
 refine aa H λr1 q1 H=>nA (ca (hF:=gW q1)) ?_
 cases H
 refine cU (wB 5 (([]:List aH).length)) ?_
 exact dT
end Go.AM
