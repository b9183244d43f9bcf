/- A part. -/
import Derived.Test.YtbfpkbncbebapaaGreatS8
set_option linter.unusedVariables false
open Option renaming bind->YL
namespace Go.AM
open Go.Proofs
open Tryz
attribute [local irreducible] AWN NS AWO AWR AWC DR dQ gQ
set_option maxRecDepth 100000
set_option maxHeartbeats 40000000
def gT (a0:ab):Int->Option (cf (Int) (Bool))
 |v6=>bif ltB v6 (a0.aN.length:Int) then(YL (ix a0.aN v6) λx7=>YL (cO x7.bv 0 (WR ((a0.an.length:Int)-1))) λr8=>YL (bif !r8 then(some true) else(YL (ix a0.aN v6) λx10=>YL (cO x10.bg 0 (WR ((a0.d8.aR.length:Int)-1))) λr11=>some (!r11))) λ(v9:Bool)=>bif v9 then(dn (some false)) else(some (.next (WR (v6+1))))) else(dn (bif leB 0 (a0.d8.aR.length:Int) then(YL (cO a0.cZ 0 (WR ((jY .i64 1 (a0.d8.aR.length:Int))-1))) λr12=>YL (bif r12 then(YL (cO a0.oZ 0 100000) λr14=>bif r14 then(some (leB 0 a0.kT)) else(some false)) else(some false)) λ(v13:Bool)=>some v13) else none))
def gS (a0:ab):Int->Option (cf (Int) (Bool))
 |v4=>bif ltB v4 (a0.an.length:Int) then(YL (uM a0 v4) λr5=>bif !r5 then(dn (some false)) else(some (.next (WR (v4+1))))) else(dn (iter (gT a0) FU 0))
def jq (a0:ab):Option Bool:=
 YL (oO a0.d8) λr1=>YL (bif !r1 then(some true) else(YL (kG a0.cq) λr3=>bif !r3 then(some true) else(bif eqB a0.cq.dm 0 then(some true) else(bif ltB 4 (a0.an.length:Int) then(some true) else(bif !eqB (a0.aj.length:Int) (a0.an.length:Int) then(some true) else(bif !eqB (a0.bi.length:Int) (a0.an.length:Int) then(some true) else(some (ltB 200 (a0.aN.length:Int))))))))) λ(v2:Bool)=>bif v2 then(some false) else(iter (gS a0) FU 0)
theorem rU {a0:ab} {r:Bool} (H:jq a0=some r):Fn prog 69 [.agg (eD a0)] [.c (.d (.b r))]:=by
 refine fI func69 ntmps69 ?_
 refine aa H λr1 q1 H=>nA (ca (hF:=ye q1)) ?_
 refine aa H λv2 Hj H=>jR ⟨[(1,tP 0),(50,tB v2)],[(0,.var 34 (kM [.f,.f,.f,.f,.f] (aJ a0)))],1⟩ ?_ ?_
 .refine gC Hj ?_ ?_<;>intro H
  .exact ai H
  refine aa H λr3 q3 H=>nG (ca (hF:=qI q3)) ?_
  refine gC H ?_ ?_<;>intro H
  .exact ai H
  refine gC H ?_ ?_<;>intro H
  .exact ai H
  refine gC H ?_ ?_<;>intro H
  .exact ai H
  refine gC H ?_ ?_<;>intro H
  .exact ai H
  refine gC H ?_ ?_<;>intro H
  .exact ai H
  exact ai H
 refine cC H ?_ ?_<;>intro H
 .exact ao H
 refine iT H (λq=>⟨[(1,tP 0),(3,tI q)],[(0,.var 34 (kM [.f,.f,.f,.f,.f] (aJ a0)))],1⟩) ?_
 rintro v4 o H
 try dsimp only
 refine wI ?_
 refine cC H ?_ ?_<;>intro H
 .refine aa H λr5 q5 H=>nA (ca (hF:=Ic q5)) ?_
  refine cC H ?_ ?_<;>intro H
  .obtain⟨r0,Hd,rfl⟩:=dnE H
   refine f6 (λhq=>?_)
   have H:=Hd.trans (congrArg some hq)
   refine wI ?_
   exact ao H
  cases H
  refine dy ?_
  exact wo
 obtain⟨r0,Hd,rfl⟩:=dnE H
 refine dF (λhq=>?_)
 have H:=Hd.trans (congrArg some hq)
 refine wI ?_
 refine iT H (λq=>⟨[(1,tP 0),(4,tI q)],[(0,.var 34 (kM [.f,.f,.f,.f,.f] (aJ a0)))],1⟩) ?_
 rintro v6 o H
 try dsimp only
 refine wI ?_
 refine cC H ?_ ?_<;>intro H
 .refine dI ?_
  refine aa H λx7 hx7 H=>dA (xdT (enc:=dv) hx7) ?_
  refine aa H λr8 q8 H=>dA (ca (hF:=bT q8)) ?_
  refine aa H λv9 Hj H=>et ⟨[(1,tP 0),(4,tI v6),(95,tB v9)],[(0,.var 34 (kM [.f,.f,.f,.f,.f] (aJ a0)))],1⟩ ?_ ?_
  .have H:=Hj
   refine wI ?_
   refine dC H ?_ ?_<;>intro H
   .refine wI ?_
    exact ai H
   refine aa H λx10 hx10 H=>dG (xdT (enc:=dv) hx10) ?_
   refine aa H λr11 q11 H=>dG (ca (hF:=bT q11)) ?_
   refine wI ?_
   exact ai H
  refine wI ?_
  refine cC H ?_ ?_<;>intro H
  .refine wI ?_
   obtain⟨r0,Hd,rfl⟩:=dnE H
   refine f6 (λhq=>?_)
   have H:=Hd.trans (congrArg some hq)
   refine wI ?_
   exact ao H
  refine wI ?_
  cases H
  refine dy ?_
  exact wo
 obtain⟨r0,Hd,rfl⟩:=dnE H
 refine dF (λhq=>?_)
 have H:=Hd.trans (congrArg some hq)
 refine wI ?_
 refine dI ?_
 obtain⟨h,H⟩:=rq H
 refine dA (B8 h rfl rfl rfl rfl) ?_
 refine aa H λr12 q12 H=>dA (ca (hF:=bT q12)) ?_
 refine aa H λv13 Hj H=>et ⟨[(2,tB v13)],[],0⟩ ?_ ?_
 .have H:=Hj
  refine wI ?_
  refine dC H ?_ ?_<;>intro H
  .refine aa H λr14 q14 H=>dG (ca (hF:=bT q14)) ?_
   refine dC H ?_ ?_<;>intro H
   .refine wI ?_
    exact ai H
   refine wI ?_
   exact ai H
  refine wI ?_
  exact ai H
 refine wI ?_
 exact ao H
def qg (a0:Int) (a1:Int):Option Int:=
 YL (s9 a1) λr1=>YL (oP a0 r1) λr2=>some r2
theorem wx {a0:Int} {a1:Int} {r:Int} (H:qg a0 a1=some r):Fn prog 169 [aI a0,aI a1] [.c (.d (.i .i64 r))]:=by
 refine fI func169 ntmps169 ?_
 refine aa H λr1 q1 H=>nA (ca (hF:=Cj q1)) ?_
 refine aa H λr2 q2 H=>nA (ca (hF:=yf q2)) ?_
 exact ao H
def qN (a0:Int) (a1:aH):Option Int:=
 YL (nn) λr1=>YL (oP a0 r1) λr2=>YL (eA r2 [23,a1.aV,a1.bg,a1.ag,a1.a9,a1.bK]) λr3=>some r3
theorem Ae {a0:Int} {a1:aH} {r:Int} (H:qN a0 a1=some r):Fn prog 250 [aI a0,.agg (ey a1)] [.c (.d (.i .i64 r))]:=by
 refine fI func250 ntmps250 ?_
 refine dI ?_
 refine aa H λr1 q1 H=>dA (ca (hF:=xT q1)) ?_
 refine aa H λr2 q2 H=>dA (ca (hF:=yf q2)) ?_
 refine aa H λr3 q3 H=>dA (ca (hF:=eu q3)) ?_
 refine wI ?_
 exact ao H
def lx (a0:Int) (a1:Int) (a2:cX):Option Int:=
 YL (jv a0 a2.fj a2.hO) λr1=>YL (eA a0 [2,a2.fj,r1]) λr2=>bif !eqB a2.iZ r2 then(some 1) else(bif leB r1 a1 then(some 2) else(bif ltB a1 (WR (r1-1000)) then(some 3) else(some 0)))
theorem vd {a0:Int} {a1:Int} {a2:cX} {r:Int} (H:lx a0 a1 a2=some r):Fn prog 171 [aI a0,aI a1,.agg (ug a2)] [.c (.d (.i .i64 r))]:=by
 refine fI func171 ntmps171 ?_
 refine aa H λr1 q1 H=>nA (ca (hF:=sr q1)) ?_
 refine dI ?_
 refine aa H λr2 q2 H=>dA (ca (hF:=eu q2)) ?_
 refine wI ?_
 refine cC H ?_ ?_<;>intro H
 .exact ao H
 refine cC H ?_ ?_<;>intro H
 .exact ao H
 refine cC H ?_ ?_<;>intro H
 .exact ao H
 exact ao H
def xB (a0:aT):Option (cX×aT):=
 YL (yZ a0) λr1=>YL (co r1.2 50) λr2=>YL (If r2.2) λr3=>YL (gV r1.1 r2.1 r3.1) λr4=>YL (co r3.2 8) λr5=>YL (bif eqB r5.1 0 then(YL (xA r5.2) λr16=>some (r16.2,{r4 with iZ:=r16.1})) else(YL (bif eqB r5.1 1 then(YL (yV r5.2 [WR (r4.hO+1),-1,1000000,WR (r4.hO+1000000)]) λr24=>some (r24.2,{r4 with hO:=r24.1})) else(YL (bif eqB r5.1 2 then(some (WR (r4.fj+1))) else(some r4.fj)) λ(v25:Int)=>some (r5.2,{r4 with fj:=v25}))) λ((v22,v23):aT×cX)=>some (v22,v23))) λ((v14,v15):aT×cX)=>some (v15,v14)
theorem Kp {a0:aT} {r:cX×aT} (H:xB a0=some r):FnW prog 337 (.var 148 (kM [.f] (bS a0))) [tP 200] (.var 148 (kM [.f] (bS r.2))) [.agg (qM [] (fm r.1))]:=by
 refine fW func337 ntmps337 ?_
 refine aa H λr1 q1 H=>sA (cw (o:=200) (Ko q1)) ?_
 refine aa H λr2 q2 H=>sA (cw (o:=200) (bU q2)) ?_
 refine aa H λr3 q3 H=>sA (cw (o:=200) (Si q3)) ?_
 refine aa H λr4 q4 H=>nA (ca (hF:=kJ q4)) ?_
 refine aa H λr5 q5 H=>sA (cw (o:=200) (bU q5)) ?_
 obtain⟨⟨v14,v15⟩,Hj,H⟩:=ob H
 refine jA ⟨[(2,tP 210),(5,tP 211)],[(200,.var 148 (kM [.f] (bS v14))),(210,.var 40 (kM [] (fm cz))),(211,.var 40 (kM [] (fm v15)))],212⟩ ?_ ?_
 .refine cC Hj ?_ ?_<;>intro H
  .refine aa H λr16 q16 H=>sA (cw (o:=200) (Bs q16)) ?_
   exact ai H
  obtain⟨⟨v22,v23⟩,Hj,H⟩:=ob H
  refine jA ⟨[(2,tP 210),(5,tP 211)],[(200,.var 148 (kM [.f] (bS v22))),(210,.var 40 (kM [] (fm cz))),(211,.var 40 (kM [] (fm v23)))],212⟩ ?_ ?_
  .refine cC Hj ?_ ?_<;>intro H
   .refine aa H λr24 q24 H=>bH (aU (o:=212)) ?_
    refine bH (cj (k:=31)) ?_
    refine sA (cw (o:=200) (Ar q24)) ?_
    exact ai H
   refine aa H λv25 Hj H=>jA ⟨[(2,tP 210),(5,tP 211)],[(200,.var 148 (kM [.f] (bS r5.2))),(210,.var 40 (kM [] (fm cz))),(211,.var 40 (kM [] (fm {r4 with fj:=v25})))],212⟩ ?_ ?_
   .refine cC Hj ?_ ?_<;>intro H
    .exact ai H
    exact ai H
   exact ai H
  exact ai H
 cases H
 exact fo
def pj (a0:aG) (a1:Int):Option (aG×cX):=
 YL (ei a0) λr1=>YL (bif !r1 then(some true) else(some (eqB a0.cV 999999))) λ(v2:Bool)=>bif v2 then(some (a0,cz)) else(YL (gV a0.eP a1 (WR (a0.cV+1))) λr3=>some ({a0 with cV:=WR (a0.cV+1)},r3))
theorem Aa {a0:aG} {a1:Int} {r:aG×cX} (H:pj a0 a1=some r):Fn prog 380 [.agg (cA a0),aI a1] [.agg (qM [] (lN r.1)),.agg (qM [] (fm r.2))]:=by
 refine fI func380 ntmps380 ?_
 refine aa H λr1 q1 H=>nA (ca (hF:=gU q1)) ?_
 refine aa H λv2 Hj H=>jR ⟨[(1,tI a1),(2,tP 0),(4,tP 1),(5,tP 2),(14,tB v2)],[(0,.var 56 (kM [] (lN a0))),(1,.var 56 (kM [] (lN rh))),(2,.var 40 (kM [] (fm cz)))],3⟩ ?_ ?_
 .refine gC Hj ?_ ?_<;>intro H
  .exact ai H
  exact ai H
 refine cC H ?_ ?_<;>intro H
 .exact ao H
 refine zI (List.range 9) ?_
 refine aa H λr3 q3 H=>zA (ca (hF:=kJ q3)) ?_
 refine wA (spx 100414) ?_
 refine wA (spx 100413) ?_
 exact ao H
def yQ (a0:Int) (a1:Int) (a2:Int) (a3:bw):Option (List Int×Int×Bool):=
 YL (js a3) λr1=>YL (bif !r1 then(some true) else(bif !eqB a3.di a1 then(some true) else(YL (qO a0 a3) λr3=>bif !r3 then(some true) else(some (leB a3.fP a2))))) λ(v2:Bool)=>bif v2 then(some (([]:List Int),a2,false)) else(YL (n8 a0 (WR ((WR (2*a3.fP))+a3.di))) λr4=>YL (z7 r4 a3.aS) λr5=>some (r5,a3.fP,true))
theorem HY {a0:Int} {a1:Int} {a2:Int} {a3:bw} {r:List Int×Int×Bool} (H:yQ a0 a1 a2 a3=some r):Fn prog 386 [aI a0,aI a1,aI a2,.agg (eE a3)] [.c (.own 5 1 (r.1.map eU8) r.1.length),.c (.d (.i .i64 r.2.1)),.c (.d (.b r.2.2))]:=by
 refine fI func386 ntmps386 ?_
 refine aa H λr1 q1 H=>nA (ca (hF:=rV q1)) ?_
 refine aa H λv2 Hj H=>jR ⟨[(0,tI a0),(2,tI a2),(7,tP 0),(31,tB v2)],[(0,.var 44 (kM [.f] (nL a3)))],1⟩ ?_ ?_
 .refine gC Hj ?_ ?_<;>intro H
  .exact ai H
  refine gC H ?_ ?_<;>intro H
  .exact ai H
  refine aa H λr3 q3 H=>nG (ca (hF:=Ag q3)) ?_
  refine gC H ?_ ?_<;>intro H
  .exact ai H
  exact ai H
 refine cC H ?_ ?_<;>intro H
 .exact ao H
 refine dI ?_
 refine aa H λr4 q4 H=>dA (ca (hF:=uA q4)) ?_
 refine aa H λr5 q5 H=>dA (ca (hF:=LF q5)) ?_
 refine wI ?_
 exact ao H
def kL (a0:a8) (a1:Int):(Int×Int)->Option (cf (Int×Int) (Int))
 |(v1,v2)=>YL (bif ltB v2 a0.dP then(some (ltB v2 6)) else(some false)) λ(v10:Bool)=>bif v10 then(YL (kn a0 v2) λr11=>YL (bif r11 then(bif ltB v1 0 then(some true) else(YL (il v2 a1) λr13=>YL (il v1 a1) λr14=>some (ltB r14 r13))) else(some false)) λ(v12:Bool)=>YL (bif v12 then(some v2) else(some v1)) λ(v15:Int)=>some (.next (v15,WR (v2+1)))) else(some (.done v1))
def jG (a0:a8) (a1:Int):Option Int:=
 YL (iter (kL a0 a1) FU (-1,0)) λ(v9:Int)=>some v9
theorem pk {a0:a8} {a1:Int} {r:Int} (H:jG a0 a1=some r):Fn prog 58 [.agg (ic a0),aI a1] [.c (.d (.i .i64 r))]:=by
 refine fI func58 ntmps58 ?_
 refine aa H λv9 Hj H=>jB ⟨[(5,tI v9)],[],0⟩ ?_ ?_
 .refine iT Hj (λq=>⟨[(1,tI a1),(2,tP 0),(5,tI q.1),(6,tI q.2)],[(0,.var 32 (kM [] (cM a0)))],1⟩) ?_
  rintro⟨v1,v2⟩ o H
  try dsimp only
  refine wI ?_
  refine aa H λv10 Hj H=>jR ⟨[(1,tI a1),(2,tP 0),(5,tI v1),(6,tI v2),(14,tB v10)],[(0,.var 32 (kM [] (cM a0)))],1⟩ ?_ ?_
  .refine gC Hj ?_ ?_<;>intro H
   .exact ai H
   exact ai H
  refine cC H ?_ ?_<;>intro H
  .refine aa H λr11 q11 H=>nA (ca (hF:=oy q11)) ?_
   refine aa H λv12 Hj H=>jR ⟨[(1,tI a1),(2,tP 0),(5,tI v1),(6,tI v2),(32,tB v12)],[(0,.var 32 (kM [] (cM a0)))],1⟩ ?_ ?_
   .refine gC Hj ?_ ?_<;>intro H
    .refine gC H ?_ ?_<;>intro H
     .exact ai H
     refine aa H λr13 q13 H=>nG (ca (hF:=pA q13)) ?_
     refine aa H λr14 q14 H=>nG (ca (hF:=pA q14)) ?_
     exact ai H
    exact ai H
   refine aa H λv15 Hj H=>jA ⟨[(1,tI a1),(2,tP 0),(5,tI v15),(6,tI v2)],[(0,.var 32 (kM [] (cM a0)))],1⟩ ?_ ?_
   .refine cC Hj ?_ ?_<;>intro H
    .exact ai H
    exact ai H
   cases H
   refine dy ?_
   exact wo
  cases H
  refine dF (λhq=>?_)
  cases hq
  refine wI ?_
  exact wo
 exact ao H
def oE (a0:ab) (r1:a8):(Int×List ah)->Option (cf (Int×List ah) (List ah))
 |(v5,v6)=>bif ltB v5 (v6.length:Int) then(YL (jG a0.cq v5) λr14=>YL (jG r1 v5) λr15=>YL (bif !eqB r14 r15 then(YL (ix v6 v5) λx17=>YL (xq x17) λr18=>YL (ix v6 v5) λx19=>some (v6.set (v5).toNat r18)) else(some v6)) λ(v16:List ah)=>some (.next (WR (v5+1),v16))) else(some (.done v6))
def uO (a0:ab) (a1:Int) (a2:Bool):Option (Bool×ab):=
 YL (p3 a0.cq a1 a2) λr1=>YL (cO a1 0 (WR (a0.cq.dP-1))) λr2=>YL (bif !r2 then(some true) else(YL (kn a0.cq a1) λr4=>bif booB r4 a2 then(some true) else(some (eqB r1.dm 0)))) λ(v3:Bool)=>bif v3 then(some (false,a0)) else(YL (iter (oE a0 r1) FU (0,a0.aj)) λ(v13:List ah)=>some (true,{a0 with aj:=v13,cq:=r1}))
theorem Ie {a0:ab} {a1:Int} {a2:Bool} {r:Bool×ab} (H:uO a0 a1 a2=some r):FnV prog 240 (nS a0) [tP 200,tI a1,tB a2] (nS r.2) (.v (.c (.d false (.b r.1)))) []:=by
 refine fV func240 ntmps240 ?_
 refine aa H λr1 q1 H=>nA (ca (hF:=Ej q1)) ?_
 refine aa H λr2 q2 H=>nA (ca (hF:=bT q2)) ?_
 refine aa H λv3 Hj H=>jR ⟨[(0,tP 200),(7,tP 210),(40,tB v3)],(nS a0++[(210,.var 32 (kM [] (cM r1)))]),211⟩ ?_ ?_
 .refine gC Hj ?_ ?_<;>intro H
  .exact ai H
  refine aa H λr4 q4 H=>nG (ca (hF:=oy q4)) ?_
  refine gC H ?_ ?_<;>intro H
  .exact ai H
  exact ai H
 refine cC H ?_ ?_<;>intro H
 .cases H
  exact bO
 refine aa H λv13 Hj H=>jB ⟨[],(nS {a0 with aj:=v13,cq:=r1}),210⟩ ?_ ?_
 .refine iT Hj (λq=>⟨[(0,tP 200),(7,tP 210),(8,tP 211),(9,tI q.1)],(nS {a0 with aj:=q.2,cq:=r1}++[(210,.var 32 (kM [] (cM r1))),(211,.var 32 (kM [] (cM a0.cq)))]),212⟩) ?_
  rintro⟨v5,v6⟩ o H
  try dsimp only
  refine wI ?_
  refine cC H ?_ ?_<;>intro H
  .refine dI ?_
   refine aa H λr14 q14 H=>dA (ca (hF:=pk q14)) ?_
   refine aa H λr15 q15 H=>dA (ca (hF:=pk q15)) ?_
   refine wI ?_
   refine aa H λv16 Hj H=>jA ⟨[(0,tP 200),(7,tP 210),(8,tP 211),(9,tI v5)],(nS {a0 with aj:=v16,cq:=r1}++[(210,.var 32 (kM [] (cM r1))),(211,.var 32 (kM [] (cM a0.cq)))]),212⟩ ?_ ?_
   .refine cC Hj ?_ ?_<;>intro H
    .refine zI (List.range 15) ?_
     refine aa H λx17 hx17 H=>zA (oY hx17) ?_
     refine zA (HG (he:=gm _ hx17)) ?_
     refine aa H λr18 q18 H=>zA (ca (hF:=J8 q18)) ?_
     refine aa H λx19 hx19 H=>zA (oY hx19) ?_
     refine zB (ay (aU (o:=212)) (ay (aU (o:=213)) (ay (aU (o:=214)) (ay (cj (k:=77)) (kw 191 (hne:=vT (enc:=bB) hx19)))))) (hP rfl (soT (enc:=bB) (a':=r18) hx19)) bW ?_
     cases H
     refine ay (dS 191) ?_
     refine ay (wB 191 ((v6.set (v5).toNat r18).length)) ?_
     exact wo
    exact ai H
   cases H
   refine dy ?_
   exact wo
  cases H
  refine dF (λhq=>?_)
  cases hq
  refine wI ?_
  exact wo
 cases H
 exact bO
end Go.AM
