/- A part. -/
import Derived.Test.YtmginjngmidkbaaGreatS3
import Derived.Test.YtmginjngmidkbaaGreatS4
set_option linter.unusedVariables false
open Option renaming bind->abU
open List renaming range->hV,cons_ne_nil->abV
namespace Go.AM
open Go.Proofs
open Tryz
attribute [local irreducible] AWN NS AWO AWR AWC DR ea gL
set_option maxRecDepth 100000
set_option maxHeartbeats 40000000
variable {a0:Go.AM.ah}
def oP (a0:aS) (a1:List aP) (a2:bD) (a3:Int):(Int×List am×List ah×List aJ)->Option (cq (Int×List am×List ah×List aJ) (List am×List ah×List aJ))
 |(v6,v7,v8,v9)=>bif ltB v6 (a1.length:Int) then(abU (ix a1 v6) λx17=>bif !eqB (a0.aX.length:Int) 0 then(abU (wV (⟨x17.ID,x17.eP,x17.cV⟩:kZ) (Int.tmod v6 (a0.aX.length:Int))) λr18=>bif c8 144 (v9++[{r18 with bV:={c7 with bB:=r18.bV.bB}}]).length then(abU (tZ x17 a2 v6) λr19=>bif c8 288 (v8++[{r19 with aM:=[],ax:=(⟨r19.ax.bB,[]⟩:aY)}]).length then(abU (tX a3) λr20=>bif c8 48 (v7++[{r20 with aj:=[]}]).length then(some (.next (WR (v6+1),(v7++[{r20 with aj:=[]}]),(v8++[{r19 with aM:=[],ax:=(⟨r19.ax.bB,[]⟩:aY)}]),(v9++[{r18 with bV:={c7 with bB:=r18.bV.bB}}])))) else none) else none) else none) else none) else(some (.done (v7,v8,v9)))
def tY (a0:aS) (a1:List aP) (a2:bD) (a3:Int):Option ab:=
 abU (qq a0) λr1=>abU (bif !r1 then(some true) else(abU (gQ a2) λr3=>bif !r3 then(some true) else(abU (uo a1) λr4=>some (!r4)))) λ(v2:Bool)=>bif v2 then(some {dT with eo:=(⟨[]⟩:aS)}) else(abU (qt a0) λr5=>abU (iter (oP a0 a1 a2 a3) FU (0,([]:List am),([]:List ah),([]:List aJ))) λ((v14,v15,v16):List am×List ah×List aJ)=>some (⟨r5,v16,v15,v14,[],0,(⟨2,3⟩:bN),0,0⟩:ab))
theorem AJ {a0:aS} {a1:List aP} {a2:bD} {a3:Int} {r:ab} (H:tY a0 a1 a2 a3=some r):FnV prog 175 [] [.v (.agg [.d false (.l (a0.aX.map dy))]),.v (.c (.d false (.l (a1.map cQ)))),.v (.agg (kM [.f] (dX a2))),tI a3] [] (.v (.agg (kM [.n 210,.n 211,.n 212,.n 213,.z] (aU {r with aK:=[]})))) [(210,RB r.eo.aX),(211,n93 r.av),(212,n75 r.aF),(213,n57 r.bG)]:=by
 refine fV func175 ntmps175 ?_
 refine aa H λr1 q1 H=>nA (ca (hF:=AH q1)) ?_
 refine aa H λv2 Hj H=>jR ⟨[(1,.v (.c (.d false (.l (a1.map cQ))))),(3,tI a3),(4,tP 210),(6,tP 211),(8,tP 212),(24,tB v2)],[(210,.var 26 [.d false (.l (a0.aX.map dy))]),(211,.var 65 (kM [.f] (dX a2))),(212,.var 34 (kM [.z,.z,.z,.z,.z] (aU {dT with eo:=(⟨[]⟩:aS)})))],213⟩ ?_ ?_
 .refine gC Hj ?_ ?_<;>intro H
  .exact ai H
  refine aa H λr3 q3 H=>nG (ca (hF:=oN q3)) ?_
  refine gC H ?_ ?_<;>intro H
  .exact ai H
  refine aa H λr4 q4 H=>nG (ca (hF:=IE q4)) ?_
  exact ai H
 refine cC H ?_ ?_<;>intro H
 .cases H
  refine co ((dY (o:=212) (j:=0) 147 2 true)) ?_
  refine co ((dY (o:=212) (j:=1) 93 14 true)) ?_
  refine co ((dY (o:=212) (j:=2) 75 30 true)) ?_
  refine co ((dY (o:=212) (j:=3) 57 4 true)) ?_
  refine co (wS 213 210) ?_
  refine co (wS 214 211) ?_
  refine co (wS 215 212) ?_
  refine co (wS 216 213) ?_
  refine co ((wB 210 (([]:List fr).length))) ?_
  refine co ((wB 211 (([]:List aJ).length))) ?_
  refine co ((wB 212 (([]:List ah).length))) ?_
  refine co ((wB 213 (([]:List am).length))) ?_
  exact cd
 refine aa H λr5 q5 H=>sA (cwv [] [(210,213)] 214 (OX q5)) ?_
 obtain⟨⟨v14,v15,v16⟩,Hj,H⟩:=ob H
 refine jB ⟨[(8,tP 212),(9,tP 214)],(oM [.n 213,.n 215,.n 216,.n 217,.z] 214 34 (aU (⟨r5,v16,v15,v14,[],0,(⟨2,3⟩:bN),0,0⟩:ab))++[(212,.var 34 (kM [.z,.z,.z,.z,.z] (aU {dT with eo:=(⟨[]⟩:aS)})))]),218⟩ ?_ ?_
 .refine iT Hj (λq=>⟨[(1,.v (.c (.d false (.l (a1.map cQ))))),(3,tI a3),(4,tP 210),(6,tP 211),(8,tP 212),(9,tP 214),(10,tI q.1)],(oM [.n 213,.n 215,.n 216,.n 217,.z] 214 34 (aU (⟨r5,q.2.2.2,q.2.2.1,q.2.1,[],0,(⟨2,3⟩:bN),0,0⟩:ab))++[(210,.var 26 [.d false (.l (a0.aX.map dy))]),(211,.var 65 (kM [.f] (dX a2))),(212,.var 34 (kM [.z,.z,.z,.z,.z] (aU {dT with eo:=(⟨[]⟩:aS)})))]),218⟩) ?_ (by refine aq (dY (o:=214) (j:=1) 93 14 true) ?_;refine aq (dY (o:=214) (j:=2) 75 30 true) ?_;refine aq (dY (o:=214) (j:=3) 57 4 true) ?_;refine aq (wB 215 (([]:List aJ).length)) ?_;refine aq (wB 216 (([]:List ah).length)) ?_;refine aq (wB 217 (([]:List am).length)) ?_;exact wo)
  rintro⟨v6,v7,v8,v9⟩ o H
  refine ad ?_
  refine cC H ?_ ?_<;>intro H
  .refine aa H λx17 hx17 H=>nA (xdT (enc:=cQ) hx17) ?_
   refine zI (hV 19) ?_
   obtain⟨h,H⟩:=rq H
   refine zA (ir rfl rfl rfl (ne0 h)) ?_
   refine aa H λr18 q18 H=>zA (ca (hF:=K3 q18)) ?_
   obtain⟨h,H⟩:=rq H
   refine zB b8 (gG rfl (EI (enc:=cS) (ys:=v9) (zs:=[{r18 with bV:={c7 with bB:=r18.bV.bB}}]) h (by first|exact abV _ _|simp) rfl (λ_=>rfl) (by first|rfl|simp) (.w rfl (by first|rfl|exact lm _|simp)) rfl rfl rfl rfl rfl rfl rfl rfl rfl rfl)) b8 ?_
   refine wA (spx 100072) ?_
   refine zI (hV 10) ?_
   refine aa H λr19 q19 H=>zA (ca (hF:=(Iz q19).frzs (by repeat (first|exact trivial|refine⟨?_,?_⟩|exact lm _|rfl)))) ?_
   obtain⟨h,H⟩:=rq H
   refine zB b8 (gG rfl (EI (enc:=bU) (ys:=v8) (zs:=[{r19 with aM:=[],ax:=(⟨r19.ax.bB,[]⟩:aY)}]) h (by first|exact abV _ _|simp) rfl (λ_=>rfl) (by first|rfl|simp) (.w rfl (by first|rfl|exact lm _|simp)) rfl rfl rfl rfl rfl rfl rfl rfl rfl rfl)) b8 ?_
   refine wA (spx 100071) ?_
   refine zI (hV 8) ?_
   refine aa H λr20 q20 H=>zA (ca (hF:=Iy q20)) ?_
   obtain⟨h,H⟩:=rq H
   refine zB b8 (gG rfl (EI (enc:=cN) (ys:=v7) (zs:=[{r20 with aj:=[]}]) h (by first|exact abV _ _|simp) rfl (λ_=>rfl) (by first|rfl|simp) (.w rfl (by first|rfl|exact lm _|simp)) rfl rfl rfl rfl rfl rfl rfl rfl rfl rfl)) b8 ?_
   refine wA (spx 100070) ?_
   cases H
   refine uQ ?_
   refine aq (ee 215) ?_
   refine aq (ee 216) ?_
   refine aq (ee 217) ?_
   exact wo
  exact aE H
 cases H
 refine co (wS 213 210) ?_
 refine co (wS 215 211) ?_
 refine co (wS 216 212) ?_
 refine co (wS 217 213) ?_
 exact cd
def y7 (a0:aJ):Option a9:=
 bif !eqB a0.bj 0 then(abU (s5 a0) λr1=>some r1) else(abU (kv a0) λr2=>abU (s4 a0) λr3=>abU (mH {r2 with bj:=1} r3) λr4=>some r4)
theorem Hn {a0:aJ} {r:a9} (H:y7 a0=some r):Fn prog 181 [.agg (cS a0)] [.agg (qM [.d,.d,.o] (cf r))]:=by
 refine fI func181 ntmps181 ?_
 refine cC H ?_ ?_<;>intro H
 .refine aa H λr1 q1 H=>nA (ca (hF:=w8 q1)) ?_
  cases H
  refine du (bb (o:=2)) ?_
  refine du (bb (o:=3)) ?_
  refine du (cL (o:=1)) ?_
  exact dW
 refine aa H λr2 q2 H=>nA (ca (hF:=jV q2)) ?_
 refine zI (hV 5) ?_
 refine aa H λr3 q3 H=>zA (ca (hF:=CP q3)) ?_
 refine aa H λr4 q4 H=>zB (aq (bb (o:=2)) (aq (bb (o:=3)) (b7 (k:=12)))) (gG rfl (cwu [] [(210,5)] 6 (FnV.up (s6 q4) rfl rfl))) b8 ?_
 refine wA (spx 100080) ?_
 exact ao H
def oH (a0:aJ):Option Bool:=
 abU (dB a0.bj 2 3) λr1=>abU (bif r1 then(abU (im a0.aV) λr3=>some (!r3)) else(some false)) λ(v2:Bool)=>bif v2 then(some false) else(abU (oO a0.df) λr4=>abU (bif r4 then(abU (dB a0.bj 0 3) λr6=>bif r6 then(abU (dB a0.be 0 5) λr7=>bif r7 then(abU (dB a0.ag 0 999999) λr8=>bif r8 then(abU (dB a0.aT 0 999999) λr9=>bif r9 then(abU (dB a0.aV 0 2147483646) λr10=>bif r10 then(abU (dB a0.eU 0 3) λr11=>bif r11 then(abU (jF a0.bV) λr12=>some r12) else(some false)) else(some false)) else(some false)) else(some false)) else(some false)) else(some false)) else(some false)) λ(v5:Bool)=>some v5)
theorem DI {a0:aJ} {r:Bool} (H:oH a0=some r):Fn prog 203 [.agg (cS a0)] [.c (.d (.b r))]:=by
 refine fI func203 ntmps203 ?_
 refine aa H λr1 q1 H=>nA (ca (hF:=cm q1)) ?_
 refine aa H λv2 Hj H=>jR ⟨[(1,tP 0),(11,tB v2)],[(0,.var 93 (kM [.f,.f] (dt a0)))],1⟩ ?_ ?_
 .refine gC Hj ?_ ?_<;>intro H
  .refine aa H λr3 q3 H=>nG (ca (hF:=jg q3)) ?_
   exact ai H
  exact ai H
 refine cC H ?_ ?_<;>intro H
 .exact ao H
 refine aa H λr4 q4 H=>nA (ca (hF:=y4 q4)) ?_
 refine aa H λv5 Hj H=>jR ⟨[(2,tB v5)],[],0⟩ ?_ ?_
 .refine gC Hj ?_ ?_<;>intro H
  .refine aa H λr6 q6 H=>nG (ca (hF:=cm q6)) ?_
   refine gC H ?_ ?_<;>intro H
   .refine aa H λr7 q7 H=>nG (ca (hF:=cm q7)) ?_
    refine gC H ?_ ?_<;>intro H
    .refine aa H λr8 q8 H=>nG (ca (hF:=cm q8)) ?_
     refine gC H ?_ ?_<;>intro H
     .refine aa H λr9 q9 H=>nG (ca (hF:=cm q9)) ?_
      refine gC H ?_ ?_<;>intro H
      .refine aa H λr10 q10 H=>nG (ca (hF:=cm q10)) ?_
       refine gC H ?_ ?_<;>intro H
       .refine aa H λr11 q11 H=>nG (ca (hF:=cm q11)) ?_
        refine gC H ?_ ?_<;>intro H
        .refine aa H λr12 q12 H=>nG (ca (hF:=sU q12)) ?_
         exact ai H
        exact ai H
       exact ai H
      exact ai H
     exact ai H
    exact ai H
   exact ai H
  exact ai H
 exact ao H
def kB (a0:ah):Int->Option (cq (Int) (Bool))
 |v5=>bif ltB v5 (a0.ax.aw.length:Int) then(abU (ix a0.ax.aw v5) λx6=>abU (ix a0.aM (WR (x6.cV-1))) λx7=>abU (qo x6.bg x7.bg) λr8=>bif !r8 then(dn (some false)) else(some (.next (WR (v5+1))))) else(dn (abU (pH a0.ax.aw) λr9=>abU (ks a0.bT) λr10=>some (leB r9 r10)))
def pZ (a0:ah):Int->Option (cq (Int) (Bool))
 |v1=>bif ltB v1 (a0.aM.length:Int) then(abU (ix a0.aM v1) λx2=>bif ltB 60 (x2.bg.length:Int) then(dn (some false)) else(some (.next (WR (v1+1))))) else(dn (abU (bif ltB 24 (a0.aM.length:Int) then(some true) else(abU (lC a0.ax) λr4=>bif !r4 then(some true) else(some (ltB (WR ((a0.aM.length:Int)+1)) a0.ax.bB)))) λ(v3:Bool)=>bif v3 then(some false) else(iter (kB a0) FU 0)))
def xb (a0:ah):Option Bool:=
 iter (pZ a0) FU 0
theorem Lf {r:Bool} (H:xb a0=some r):Fn prog 285 [.agg (bU a0)] [.c (.d (.b r))]:=by
 refine fI func285 ntmps285 ?_
 refine iT H (λq=>⟨[(1,tP 0),(3,tI q)],[(0,.var 75 (kM [.f,.f,.f] (ct a0)))],1⟩) ?_
 rintro v1 o H
 refine ad ?_
 refine cC H ?_ ?_<;>intro H
 .refine aa H λx2 hx2 H=>nA (xdT (enc:=da) hx2) ?_
  refine cC H ?_ ?_<;>intro H
  .exact aQ H
  exact aN H
 refine aR H λH=>?_
 refine aa H λv3 Hj H=>jR ⟨[(1,tP 0),(40,tB v3)],[(0,.var 75 (kM [.f,.f,.f] (ct a0)))],1⟩ ?_ ?_
 .refine gC Hj ?_ ?_<;>intro H
  .exact ai H
  refine aa H λr4 q4 H=>nG (ca (hF:=pE q4)) ?_
  exact az H
 refine cC H ?_ ?_<;>intro H
 .exact ao H
 refine iT H (λq=>⟨[(1,tP 0),(4,tI q)],[(0,.var 75 (kM [.f,.f,.f] (ct a0)))],1⟩) ?_
 rintro v5 o H
 refine ad ?_
 refine cC H ?_ ?_<;>intro H
 .refine aa H λx6 hx6 H=>nA (xdT (enc:=an) hx6) ?_
  refine dI ?_
  refine aa H λx7 hx7 H=>dA (xdT (enc:=da) hx7) ?_
  refine aa H λr8 q8 H=>dA (ca (hF:=AF q8)) ?_
  refine wI ?_
  refine cC H ?_ ?_<;>intro H
  .exact aQ H
  exact aN H
 refine aR H λH=>?_
 refine dI ?_
 refine aa H λr9 q9 H=>dA (ca (hF:=ui q9)) ?_
 refine aa H λr10 q10 H=>dA (ca (hF:=t9 q10)) ?_
 refine wI ?_
 exact ao H
def o7 (a0:bF) (a1:bF):Option Bool:=
 abU (bif eqB a0.bk a1.bk then(bif booB a0.eH a1.eH then(bif booB a0.dR a1.dR then(bif eqB a0.be a1.be then(bif(eqB a0.bh.a8 a1.bh.a8&&(eqB a0.bh.be a1.bh.be&&(eqB a0.bh.ag a1.bh.ag&&(eqB a0.bh.aT a1.bh.aT&&(eqB a0.bh.bL a1.bh.bL&&(eqB a0.bh.bW.er a1.bh.bW.er&&(eqB a0.bh.bW.fY a1.bh.bW.fY&&(eqB a0.bh.bW.iM a1.bh.bW.iM&&(eqB a0.bh.bW.vT a1.bh.bW.vT&&(eqB a0.bh.bW.eP a1.bh.bW.eP&&(eqB a0.bh.iM a1.bh.iM&&true))))))))))) then(abU (tR a0.cz a1.cz) λr2=>some r2) else(some false)) else(some false)) else(some false)) else(some false)) else(some false)) λ(v1:Bool)=>some v1
theorem D4 {a0:bF} {a1:bF} {r:Bool} (H:o7 a0 a1=some r):Fn prog 65 [.agg (dr a0),.agg (dr a1)] [.c (.d (.b r))]:=by
 refine fI func65 ntmps65 ?_
 refine aa H λv1 Hj H=>jR ⟨[(4,tB v1)],[],0⟩ ?_ ?_
 .refine gC Hj ?_ ?_<;>intro H
  .refine gC H ?_ ?_<;>intro H
   .refine gC H ?_ ?_<;>intro H
    .refine gC H ?_ ?_<;>intro H
     .refine gC H ?_ ?_<;>intro H
      .refine aa H λr2 q2 H=>nG (ca (hF:=Iu q2)) ?_
       exact ai H
      exact ai H
     exact ai H
    exact ai H
   exact ai H
  exact ai H
 exact ao H
def fa (a0:Int) (a1:List Int):Option Int:=
 bif c8 8 ([a0]++a1).length then(bif c8 8 (([a0]++a1)++[a0]).length then(abU (QL (([a0]++a1)++[a0])) λr1=>some r1) else none) else none
theorem eS {a0:Int} {a1:List Int} {r:Int} (H:fa a0 a1=some r):Fn prog 213 [aI a0,aL (a1.map eI)] [.c (.d (.i .i64 r))]:=by
 refine fI func213 ntmps213 ?_
 obtain⟨h,H⟩:=rq H
 refine fG rfl (apT (enc:=eI) (ys:=[a0]) (zs:=a1) h) ?_
 refine aW (iR (enc:=eI) (o:=0)) ?_
 obtain⟨h,H⟩:=rq H
 refine sA (apT (enc:=eI) (ys:=([a0]++a1)) (zs:=[a0]) h) ?_
 refine aa H λr1 q1 H=>nA (ca (hF:=XE q1)) ?_
 exact ao H
def Ab (a0:bm):Option (Int×bm):=
 abU (i9 a0 10) λr1=>bif r1.1 then(abU (Bp r1.2 [-1,2147483647,2147483648]) λr2=>some (r2.1,r2.2)) else(abU (i9 r1.2 4) λr3=>bif r3.1 then(abU (Bp r3.2 [0,1,2147483646]) λr4=>some (r4.1,r4.2)) else(abU (cI r3.2 1000000) λr5=>abU (cI r5.2 2000) λr6=>some (WR (r5.1*r6.1),r6.2)))
theorem D6 {a0:bm} {r:Int×bm} (H:Ab a0=some r):FnW prog 318 (.var 135 (kM [.f] (ci a0))) [tP 200] (.var 135 (kM [.f] (ci r.2))) [.c (.d (.i .i64 r.1))]:=by
 refine fW func318 ntmps318 ?_
 refine aa H λr1 q1 H=>sA (cw (o:=200) (iQ q1)) ?_
 refine cC H ?_ ?_<;>intro H
 .refine aa H λr2 q2 H=>bQ (bb (o:=210)) ?_
  refine bQ (b7 (k:=6)) ?_
  refine sA (cw (o:=200) (CL q2)) ?_
  cases H
  exact f4
 refine aa H λr3 q3 H=>sA (cw (o:=200) (iQ q3)) ?_
 refine cC H ?_ ?_<;>intro H
 .refine aa H λr4 q4 H=>bQ (bb (o:=210)) ?_
  refine bQ (b7 (k:=11)) ?_
  refine sA (cw (o:=200) (CL q4)) ?_
  cases H
  exact f4
 refine aa H λr5 q5 H=>sA (cw (o:=200) (cp q5)) ?_
 refine aa H λr6 q6 H=>sA (cw (o:=200) (cp q6)) ?_
 cases H
 exact f4
def Lj (a0:bm):Option (Int×bm):=
 abU (i9 a0 6) λr1=>bif r1.1 then(abU (Bp r1.2 [0,999999,1000000,-1,998999]) λr2=>some (r2.1,r2.2)) else(abU (cI r1.2 40) λr3=>some (r3.1,r3.2))
theorem VH {a0:bm} {r:Int×bm} (H:Lj a0=some r):FnW prog 343 (.var 135 (kM [.f] (ci a0))) [tP 200] (.var 135 (kM [.f] (ci r.2))) [.c (.d (.i .i64 r.1))]:=by
 refine fW func343 ntmps343 ?_
 refine aa H λr1 q1 H=>sA (cw (o:=200) (iQ q1)) ?_
 refine cC H ?_ ?_<;>intro H
 .refine aa H λr2 q2 H=>bQ (bb (o:=210)) ?_
  refine bQ (b7 (k:=6)) ?_
  refine sA (cw (o:=200) (CL q2)) ?_
  cases H
  exact f4
 refine aa H λr3 q3 H=>sA (cw (o:=200) (cp q3)) ?_
 cases H
 exact f4
def lH (a1:Int) (a2:Bool) (a3:List aD):(Int×ab)->Option (cq (Int×ab) (ab))
 |(v1,v12)=>bif ltB v1 (a3.length:Int) then(abU (ix a3 v1) λx27=>abU (ix a3 v1) λx28=>abU (gk v12 (⟨a1,a2,false,x27.be,x28,eE⟩:bF)) λr29=>some (.next (WR (v1+1),r29))) else(some (.done v12))
def lG (a0:ab) (a1:Int) (a2:Bool) (a3:List aD):Option ab:=
 abU (iter (lH a1 a2 a3) FU (0,a0)) λ(v26:ab)=>some v26
theorem uY {a0:ab} {a1:Int} {a2:Bool} {a3:List aD} {r:ab} (H:lG a0 a1 a2 a3=some r):FnV prog 266 (nS a0) [tP 200,tI a1,tB a2,.v (.c (.d true (.l (a3.map c9))))] (nS r) (.tup []) []:=by
 refine fV func266 ntmps266 ?_
 refine aa H λv26 Hj H=>jB ⟨[],(nS v26),210⟩ ?_ ?_
 .refine iT Hj (λq=>⟨[(0,tP 200),(1,tI a1),(2,tB a2),(3,.v (.c (.d true (.l (a3.map c9))))),(8,tI q.1)],(nS q.2),210⟩) ?_
  rintro⟨v1,v12⟩ o H
  refine ad ?_
  refine cC H ?_ ?_<;>intro H
  .refine zI (hV 14) ?_
   refine aa H λx27 hx27 H=>zA (xdT (enc:=c9) hx27) ?_
   refine aa H λx28 hx28 H=>zA (xdT (enc:=c9) hx28) ?_
   refine aa H λr29 q29 H=>zB b8 (gG rfl (cwu m0 [] 210 (tc q29))) b8 ?_
   exact aN H
  exact aE H
 cases H
 exact mn
def s8 (a0:ah) (a1:am):Option bZ:=
 abU (ja a0) λr1=>abU (mG a1) λr2=>some {dw with aZ:=r1,eL:=r2}
theorem Br {a1:am} {r:bZ} (H:s8 a0 a1=some r):Fn prog 321 [.agg (bU a0),.agg (cN a1)] [.agg (qM [.o,.o,.o,.o,.o,.o] (cY r))]:=by
 refine fI func321 ntmps321 ?_
 refine zI (hV 8) ?_
 refine aa H λr1 q1 H=>zA (ca (hF:=iK q1)) ?_
 refine aa H λr2 q2 H=>zA (ca (hF:=nm q2)) ?_
 refine wA (spx 100336) ?_
 cases H
 refine du (wB 7 (([]:List aD).length)) ?_
 refine du (wB 8 (([]:List aA).length)) ?_
 exact dW
def rI (a0:am) (a1:cX):Option (am×cX):=
 abU (fT a0 a1) λr1=>bif !r1 then(abU (mG a0) λr2=>some (r2,a1)) else(abU (K1 a0 a1.aG a1.ev) λr3=>some (r3.1,(⟨a1.aG,WR (a1.cG-a1.ev),0⟩:cX)))
theorem Hp {a0:am} {a1:cX} {r:am×cX} (H:rI a0 a1=some r):Fn prog 322 [.agg (cN a0),.agg (pK a1)] [.agg (qM [.o] (cZ r.1)),.agg (qM [] (nU r.2))]:=by
 refine fI func322 ntmps322 ?_
 refine aa H λr1 q1 H=>nA (ca (hF:=jT q1)) ?_
 refine cC H ?_ ?_<;>intro H
 .refine zI (hV 5) ?_
  refine aa H λr2 q2 H=>zA (ca (hF:=nm q2)) ?_
  refine wA (spx 100346) ?_
  refine wA (spx 100345) ?_
  exact ao H
 refine aa H λr3 q3 H=>nA (ca (hF:=Vs q3)) ?_
 refine zI (hV 11) ?_
 refine wA (spx 100348) ?_
 refine wA (spx 100347) ?_
 exact ao H
def oR (a0:ah) (a1:Int):Option Int:=
 abU (oQ a0) λr1=>abU (ks a0.bT) λr2=>abU (Hi 0 (WR ((WR (r1+a1))-r2))) λr3=>some r3
theorem y8 {a1:Int} {r:Int} (H:oR a0 a1=some r):Fn prog 349 [.agg (bU a0),aI a1] [.c (.d (.i .i64 r))]:=by
 refine fI func349 ntmps349 ?_
 refine dI ?_
 refine aa H λr1 q1 H=>dA (ca (hF:=Ap q1)) ?_
 refine aa H λr2 q2 H=>dA (ca (hF:=t9 q2)) ?_
 refine aa H λr3 q3 H=>dA (ca (hF:=DL q3)) ?_
 refine wI ?_
 exact ao H
def pX (a0:am) (a1:cX) (a2:Int):Option (am×cX):=
 abU (Cw a0 a1.aG a2) λr1=>abU (fT a0 a1) λr2=>abU (bif !r2 then(some true) else(abU (ip {a1 with cG:=WR (a1.cG+r1.2)}) λr4=>some (!r4))) λ(v3:Bool)=>bif v3 then(abU (mG a0) λr5=>some (r5,a1)) else(some (r1.1,{a1 with cG:=WR (a1.cG+r1.2)}))
theorem E8 {a0:am} {a1:cX} {a2:Int} {r:am×cX} (H:pX a0 a1 a2=some r):Fn prog 365 [.agg (cN a0),.agg (pK a1),aI a2] [.agg (qM [.o] (cZ r.1)),.agg (qM [] (nU r.2))]:=by
 refine fI func365 ntmps365 ?_
 refine aa H λr1 q1 H=>nA (ca (hF:=OQ q1)) ?_
 refine aa H λr2 q2 H=>nA (ca (hF:=jT q2)) ?_
 refine aa H λv3 Hj H=>jR ⟨[(3,tP 0),(4,tP 1),(6,tP 2),(7,tP 3),(8,tP 5),(10,tP 6),(33,tB v3)],(oM [.w 4] 5 57 (cZ r1.1)++[(0,.var 57 (kM [.f] (cZ a0))),(1,.var 73 (kM [] (nU a1))),(2,.var 57 (kM [.z] (cZ lW))),(3,.var 73 (kM [] (nU C0))),(6,.var 73 (kM [] (nU {a1 with cG:=WR (a1.cG+r1.2)})))]),7⟩ ?_ ?_
 .refine gC Hj ?_ ?_<;>intro H
  .exact ai H
  refine aa H λr4 q4 H=>nG (ca (hF:=ko q4)) ?_
  exact ai H
 refine cC H ?_ ?_<;>intro H
 .refine zI (hV 5) ?_
  refine aa H λr5 q5 H=>zA (ca (hF:=nm q5)) ?_
  refine wA (spx 100364) ?_
  refine wA (spx 100363) ?_
  exact ao H
 refine zI (hV 4) ?_
 refine wA (spx 100366) ?_
 refine wA (spx 100365) ?_
 exact ao H
def o4 (a0:ah):Option bI:=
 abU (ja a0) λr1=>some (⟨r1,([]:List aD)⟩:bI)
theorem pI {r:bI} (H:o4 a0=some r):Fn prog 352 [.agg (bU a0)] [.agg (qM [.o,.o,.o,.o] (cK r))]:=by
 refine fI func352 ntmps352 ?_
 refine aa H λr1 q1 H=>nA (ca (hF:=iK q1)) ?_
 cases H
 refine du (wB 5 (([]:List aD).length)) ?_
 exact dW
def wT (a0:aJ):Option aJ:=
 abU (kv a0) λr1=>abU (bif eqB a0.bj 2 then(some 3) else(some r1.bj)) λ(v2:Int)=>some {r1 with bj:=v2}
theorem K2 {a0:aJ} {r:aJ} (H:wT a0=some r):Fn prog 270 [.agg (cS a0)] [.agg (qM [.o,.o] (dt r))]:=by
 refine fI func270 ntmps270 ?_
 refine aa H λr1 q1 H=>nA (ca (hF:=jV q1)) ?_
 refine aa H λv2 Hj H=>jA ⟨[(2,tP 1),(3,tP 4)],(oM [.w 2,.w 3] 4 93 (dt {r1 with bj:=v2})++[(1,.var 93 (kM [.z,.z] (dt zE)))]),5⟩ ?_ ?_
 .exact az Hj
 exact ao H
def zZ (a0:ah):Option ah:=
 abU (ja a0) λr1=>some {r1 with aC:=cg,bE:=0,d6:=0,ge:=ec,dP:=0}
theorem M8 {r:ah} (H:zZ a0=some r):Fn prog 274 [.agg (bU a0)] [.agg (qM [.o,.o,.o] (ct r))]:=by
 refine fI func274 ntmps274 ?_
 refine aa H λr1 q1 H=>nA (ca (hF:=iK q1)) ?_
 exact ao H
end Go.AM
