/- A part. -/
import Derived.Test.YtljhooecmjejiaaGreatS7
import Derived.Test.YtljhooecmjejiaaGreatS9
import Derived.Test.YtljhooecmjejiaaGreatS11
set_option linter.unusedVariables false
open Option renaming bind→Un
open List renaming range→SO,cons_ne_nil→Uo
namespace Go.AM
open Go.Proofs
attribute [local irreducible] AWN NS AWO AWR AWC DR cZ eE
set_option maxRecDepth 100000
set_option maxHeartbeats 40000000
def kB (a0:aK) (a1:List aC) (a2:bA) (a3:Int):(Int×List aj×List ag×List ay)→Option (cB (Int×List aj×List ag×List ay) (List aj×List ag×List ay))
 |(v6,v7,v8,v9)=>bif ltB v6 ((a1.length:Nat):Int) then(Un (ix a1 v6) fun x17=>bif !eqB ((a0.aX.length:Nat):Int) 0 then(Un (qK (⟨x17.ID,x17.eP,x17.cO⟩:mL) (Int.tmod v6 ((a0.aX.length:Nat):Int))) fun r18=>bif cS 144 (v9++[{r18 with bi:={dm with bj:=r18.bi.bj}}]).length then(Un (oV x17 a2 v6) fun r19=>bif cS 288 (v8++[{r19 with ao:=[],an:=(⟨r19.an.bj,[]⟩:a8)}]).length then(Un (oT a3) fun r20=>bif cS 48 (v7++[{r20 with aA:=[]}]).length then(some (.next (WR (v6+1),(v7++[{r20 with aA:=[]}]),(v8++[{r19 with ao:=[],an:=(⟨r19.an.bj,[]⟩:a8)}]),(v9++[{r18 with bi:={dm with bj:=r18.bi.bj}}])))) else none) else none) else none) else none) else(some (.done (v7,v8,v9)))
def oU (a0:aK) (a1:List aC) (a2:bA) (a3:Int):Option ab:=
 Un (ma a0) fun r1=>Un (bif !r1 then(some true) else(Un (eY a2) fun r3=>bif !r3 then(some true) else(Un (pf a1) fun r4=>some (!r4)))) fun(v2:Bool)=>bif v2 then(some {dt with dW:=(⟨[]⟩:aK)}) else(Un (mf a0) fun r5=>Un (iter (kB a0 a1 a2 a3) FU (0,([]:List aj),([]:List ag),([]:List ay))) fun((v14,v15,v16):List aj×List ag×List ay)=>some (⟨r5,v16,v15,v14,[],0,(⟨2,3⟩:bN),0,0⟩:ab))
theorem ux {a0:aK} {a1:List aC} {a2:bA} {a3:Int} {r:ab} (H:oU a0 a1 a2 a3=some r):FnV Tryz.prog 125 [] [.v (.agg [.d false (.l (a0.aX.map dP))]),.v (.c (.d false (.l (a1.map cm)))),.v (.agg (kM [.f] (dE a2))),tI a3] [] (.v (.agg (kM [.n 210,.n 211,.n 212,.n 213,.z] (aO {r with aQ:=[]})))) [(210,J6 r.dW.aX),(211,n45 r.ai),(212,n60 r.am),(213,n66 r.aY)]:=by
 refine fV Tryz.func125 Tryz.ntmps125 ?_
 obtain⟨r1,q1,H⟩:=ob H
 refine nA (ca (hF:=uv q1)) ?_
 obtain⟨v2,Hj,H⟩:=ob H
 refine jR ⟨[(1,.v (.c (.d false (.l (a1.map cm))))),(3,tI a3),(4,tP 210),(6,tP 211),(8,tP 212),(24,tB v2)],[(210,.var 26 [.d false (.l (a0.aX.map dP))]),(211,.var 50 (kM [.f] (dE a2))),(212,.var 34 (kM [.z,.z,.z,.z,.z] (aO {dt with dW:=(⟨[]⟩:aK)})))],213⟩ ?_ ?_
 ·have H:=Hj
  refine gC H ?_ ?_<;>intro H
  ·cases H
   exact wo
  ·obtain⟨r3,q3,H⟩:=ob H
   refine nG (ca (hF:=kz q3)) ?_
   refine gC H ?_ ?_<;>intro H
   ·cases H
    exact wo
   ·obtain⟨r4,q4,H⟩:=ob H
    refine nG (ca (hF:=Bs q4)) ?_
    cases H
    exact wo
 refine cC H ?_ ?_<;>intro H
 ·cases H
  refine bU ((c8 (o:=212) (j:=0) 157 2 true)) ?_
  refine bU ((c8 (o:=212) (j:=1) 45 14 true)) ?_
  refine bU ((c8 (o:=212) (j:=2) 60 30 true)) ?_
  refine bU ((c8 (o:=212) (j:=3) 66 4 true)) ?_
  refine bU (wS 213 210) ?_
  refine bU (wS 214 211) ?_
  refine bU (wS 215 212) ?_
  refine bU (wS 216 213) ?_
  refine bU ((wB 210 (([]:List fc).length))) ?_
  refine bU ((wB 211 (([]:List ay).length))) ?_
  refine bU ((wB 212 (([]:List ag).length))) ?_
  refine bU ((wB 213 (([]:List aj).length))) ?_
  exact bV
 ·obtain⟨r5,q5,H⟩:=ob H
  refine sA (cwv [] [(210,213)] 214 (HC q5)) ?_
  obtain⟨⟨v14,v15,v16⟩,Hj,H⟩:=ob H
  refine jB ⟨[(8,tP 212),(9,tP 214)],(oM [.n 213,.n 215,.n 216,.n 217,.z] 214 34 (aO (⟨r5,v16,v15,v14,[],0,(⟨2,3⟩:bN),0,0⟩:ab))++[(212,.var 34 (kM [.z,.z,.z,.z,.z] (aO {dt with dW:=(⟨[]⟩:aK)})))]),218⟩ ?_ ?_
  ·refine iT Hj (fun q=>⟨[(1,.v (.c (.d false (.l (a1.map cm))))),(3,tI a3),(4,tP 210),(6,tP 211),(8,tP 212),(9,tP 214),(10,tI q.1)],(oM [.n 213,.n 215,.n 216,.n 217,.z] 214 34 (aO (⟨r5,q.2.2.2,q.2.2.1,q.2.1,[],0,(⟨2,3⟩:bN),0,0⟩:ab))++[(210,.var 26 [.d false (.l (a0.aX.map dP))]),(211,.var 50 (kM [.f] (dE a2))),(212,.var 34 (kM [.z,.z,.z,.z,.z] (aO {dt with dW:=(⟨[]⟩:aK)})))]),218⟩) ?_ (by refine aq (c8 (o:=214) (j:=1) 45 14 true) ?_;refine aq (c8 (o:=214) (j:=2) 60 30 true) ?_;refine aq (c8 (o:=214) (j:=3) 66 4 true) ?_;refine aq (wB 215 (([]:List ay).length)) ?_;refine aq (wB 216 (([]:List ag).length)) ?_;refine aq (wB 217 (([]:List aj).length)) ?_;exact wo)
   rintro⟨v6,v7,v8,v9⟩ o H
   try dsimp only
   refine wI ?_
   refine cC H ?_ ?_<;>intro H
   ·obtain⟨x17,hx17,H⟩:=ob H
    refine nA (xdT (enc:=cm) hx17) ?_
    refine zI (SO 19) ?_
    obtain⟨h,H⟩:=rq H
    refine zA (ir rfl rfl rfl (ne0 h)) ?_
    obtain⟨r18,q18,H⟩:=ob H
    refine zA (ca (hF:=DE q18)) ?_
    obtain⟨h,H⟩:=rq H
    refine zB bT (gq rfl (yk (enc:=c7) (ys:=v9) (zs:=[{r18 with bi:={dm with bj:=r18.bi.bj}}]) h (by first|exact Uo _ _|simp) rfl (fun _=>rfl) (by first|rfl|simp) (.w rfl (by first|rfl|exact lm _|simp)) rfl rfl rfl rfl rfl rfl rfl rfl rfl rfl)) bT ?_
    refine wA (spx 100072) ?_
    refine zI (SO 10) ?_
    obtain⟨r19,q19,H⟩:=ob H
    refine zA (ca (hF:=(Bp q19).frzs (by repeat (first|exact trivial|refine⟨?_,?_⟩|exact lm _|rfl)))) ?_
    obtain⟨h,H⟩:=rq H
    refine zB bT (gq rfl (yk (enc:=bS) (ys:=v8) (zs:=[{r19 with ao:=[],an:=(⟨r19.an.bj,[]⟩:a8)}]) h (by first|exact Uo _ _|simp) rfl (fun _=>rfl) (by first|rfl|simp) (.w rfl (by first|rfl|exact lm _|simp)) rfl rfl rfl rfl rfl rfl rfl rfl rfl rfl)) bT ?_
    refine wA (spx 100071) ?_
    refine zI (SO 8) ?_
    obtain⟨r20,q20,H⟩:=ob H
    refine zA (ca (hF:=Bo q20)) ?_
    obtain⟨h,H⟩:=rq H
    refine zB bT (gq rfl (yk (enc:=da) (ys:=v7) (zs:=[{r20 with aA:=[]}]) h (by first|exact Uo _ _|simp) rfl (fun _=>rfl) (by first|rfl|simp) (.w rfl (by first|rfl|exact lm _|simp)) rfl rfl rfl rfl rfl rfl rfl rfl rfl rfl)) bT ?_
    refine wA (spx 100070) ?_
    cases H
    refine ee ?_
    refine aq (du 215) ?_
    refine aq (du 216) ?_
    refine aq (du 217) ?_
    exact wo
   ·cases H
    refine ed (fun hq=>?_)
    cases hq
    refine wI ?_
    exact wo
  cases H
  refine bU (wS 213 210) ?_
  refine bU (wS 215 211) ?_
  refine bU (wS 216 212) ?_
  refine bU (wS 217 213) ?_
  exact bV
def sP (a0:ay):Option aS:=
 bif !eqB a0.bg 0 then(Un (ol a0) fun r1=>some r1) else(Un (ia a0) fun r2=>Un (oi a0) fun r3=>Un (jr {r2 with bg:=1} r3) fun r4=>some r4)
theorem Ak {a0:ay} {r:aS} (H:sP a0=some r):Fn Tryz.prog 131 [.agg (c7 a0)] [.agg (qM [.d,.d,.o] (cq r))]:=by
 refine fI Tryz.func131 Tryz.ntmps131 ?_
 refine cC H ?_ ?_<;>intro H
 ·obtain⟨r1,q1,H⟩:=ob H
  refine nA (ca (hF:=qR q1)) ?_
  cases H
  refine cG (aT (o:=2)) ?_
  refine cG (aT (o:=3)) ?_
  refine cG (dr (o:=1)) ?_
  exact ah
 ·obtain⟨r2,q2,H⟩:=ob H
  refine nA (ca (hF:=gU q2)) ?_
  refine zI (SO 5) ?_
  obtain⟨r3,q3,H⟩:=ob H
  refine zA (ca (hF:=wy q3)) ?_
  obtain⟨r4,q4,H⟩:=ob H
  refine zB (aq (aT (o:=2)) (aq (aT (o:=3)) (cA (k:=12)))) (gq rfl (cwu [] [(210,5)] 6 (FnV.up (om q4) rfl rfl))) bT ?_
  refine wA (spx 100080) ?_
  cases H
  exact ah
def lx (a0:Int) (a1:Int):Option Int:=
 Un (d6 a0 [9,a1]) fun r1=>Un (Ah 1 r1) fun r2=>some r2
theorem qI {a0:Int} {a1:Int} {r:Int} (H:lx a0 a1=some r):Fn Tryz.prog 223 [aI a0,aI a1] [.c (.d (.i .i64 r))]:=by
 refine fI Tryz.func223 Tryz.ntmps223 ?_
 obtain⟨r1,q1,H⟩:=ob H
 refine nA (ca (hF:=dV q1)) ?_
 obtain⟨r2,q2,H⟩:=ob H
 refine nA (ca (hF:=xo q2)) ?_
 cases H
 exact ah
def xF (a0:Int) (a1:bG):Option Int:=
 Un (mY a1.aN) fun r1=>bif cS 8 ([a1.c9,a1.fx]++r1).length then(Un (d6 a0 ([a1.c9,a1.fx]++r1)) fun r2=>some r2) else none
theorem Gj {a0:Int} {a1:bG} {r:Int} (H:xF a0 a1=some r):Fn Tryz.prog 147 [aI a0,.agg (fG a1)] [.c (.d (.i .i64 r))]:=by
 refine fI Tryz.func147 Tryz.ntmps147 ?_
 refine zI (SO 12) ?_
 obtain⟨r1,q1,H⟩:=ob H
 refine zA (ca (hF:=Ac q1)) ?_
 obtain⟨h,H⟩:=rq H
 refine wA (A4 (enc:=eI) (ys:=[a1.c9,a1.fx]) (zs:=r1) [1,2] h) ?_
 obtain⟨r2,q2,H⟩:=ob H
 refine zA (ca (hF:=dV q2)) ?_
 refine jt (ds:=[1]) (by kernel_rfl) (by kernel_rfl) rfl ?_
 refine wI ?_
 cases H
 exact ah
def kD (a0:ag) (a1:Int):Option Int:=
 Un (kC a0) fun r1=>Un (g9 a0.bO) fun r2=>Un (Ah 0 (WR ((WR (r1+a1))-r2))) fun r3=>some r3
theorem sQ {a0:ag} {a1:Int} {r:Int} (H:kD a0 a1=some r):Fn Tryz.prog 352 [.agg (bS a0),aI a1] [.c (.d (.i .i64 r))]:=by
 refine fI Tryz.func352 Tryz.ntmps352 ?_
 refine dI ?_
 obtain⟨r1,q1,H⟩:=ob H
 refine dA (ca (hF:=uc q1)) ?_
 obtain⟨r2,q2,H⟩:=ob H
 refine dA (ca (hF:=oX q2)) ?_
 obtain⟨r3,q3,H⟩:=ob H
 refine dA (ca (hF:=xo q3)) ?_
 refine wI ?_
 cases H
 exact ah
def lM (a0:aj) (a1:cY) (a2:Int):Option (aj×cY):=
 Un (wd a0 a1.au a2) fun r1=>Un (eu a0 a1) fun r2=>Un (bif !r2 then(some true) else(Un (fE {a1 with cE:=WR (a1.cE+r1.2)}) fun r4=>some (!r4))) fun(v3:Bool)=>bif v3 then(Un (jq a0) fun r5=>some (r5,a1)) else(some (r1.1,{a1 with cE:=WR (a1.cE+r1.2)}))
theorem yw {a0:aj} {a1:cY} {a2:Int} {r:aj×cY} (H:lM a0 a1 a2=some r):Fn Tryz.prog 368 [.agg (da a0),.agg (tu a1),aI a2] [.agg (qM [.o] (cM r.1)),.agg (qM [] (oG r.2))]:=by
 refine fI Tryz.func368 Tryz.ntmps368 ?_
 obtain⟨r1,q1,H⟩:=ob H
 refine nA (ca (hF:=Hx q1)) ?_
 obtain⟨r2,q2,H⟩:=ob H
 refine nA (ca (hF:=gR q2)) ?_
 obtain⟨v3,Hj,H⟩:=ob H
 refine jR ⟨[(3,tP 0),(4,tP 1),(6,tP 2),(7,tP 3),(8,tP 5),(10,tP 6),(33,tB v3)],(oM [.w 4] 5 66 (cM r1.1)++[(0,.var 66 (kM [.f] (cM a0))),(1,.var 58 (kM [] (oG a1))),(2,.var 66 (kM [.z] (cM lD))),(3,.var 58 (kM [] (oG yS))),(6,.var 58 (kM [] (oG {a1 with cE:=WR (a1.cE+r1.2)})))]),7⟩ ?_ ?_
 ·have H:=Hj
  refine gC H ?_ ?_<;>intro H
  ·cases H
   exact wo
  ·obtain⟨r4,q4,H⟩:=ob H
   refine nG (ca (hF:=gZ q4)) ?_
   cases H
   exact wo
 refine cC H ?_ ?_<;>intro H
 ·refine zI (SO 5) ?_
  obtain⟨r5,q5,H⟩:=ob H
  refine zA (ca (hF:=jL q5)) ?_
  refine wA (spx 100364) ?_
  refine wA (spx 100363) ?_
  cases H
  exact ah
 ·refine zI (SO 4) ?_
  refine wA (spx 100366) ?_
  refine wA (spx 100365) ?_
  cases H
  exact ah
def kR (a0:ag):Option bH:=
 Un (ge a0) fun r1=>some (⟨r1,([]:List az)⟩:bH)
theorem lC {a0:ag} {r:bH} (H:kR a0=some r):Fn Tryz.prog 355 [.agg (bS a0)] [.agg (qM [.o,.o,.o,.o] (d7 r))]:=by
 refine fI Tryz.func355 Tryz.ntmps355 ?_
 obtain⟨r1,q1,H⟩:=ob H
 refine nA (ca (hF:=fQ q1)) ?_
 cases H
 refine cG (wB 5 (([]:List az).length)) ?_
 exact ah
def qJ (a0:ay):Option ay:=
 Un (ia a0) fun r1=>Un (bif eqB a0.bg 2 then(some 3) else(some r1.bg)) fun(v2:Int)=>some {r1 with bg:=v2}
theorem DD {a0:ay} {r:ay} (H:qJ a0=some r):Fn Tryz.prog 288 [.agg (c7 a0)] [.agg (qM [.o,.o] (df r))]:=by
 refine fI Tryz.func288 Tryz.ntmps288 ?_
 obtain⟨r1,q1,H⟩:=ob H
 refine nA (ca (hF:=gU q1)) ?_
 obtain⟨v2,Hj,H⟩:=ob H
 refine jA ⟨[(2,tP 1),(3,tP 4)],(oM [.w 2,.w 3] 4 45 (df {r1 with bg:=v2})++[(1,.var 45 (kM [.z,.z] (df A2)))]),5⟩ ?_ ?_
 ·have H:=Hj
  refine cC H ?_ ?_<;>intro H
  ·cases H
   exact wo
  ·cases H
   exact wo
 cases H
 exact ah
def tG (a0:ag):Option ag:=
 Un (ge a0) fun r1=>some {r1 with aD:=cg,bC:=0,d9:=0,ik:=eQ,dS:=0}
theorem F1 {a0:ag} {r:ag} (H:tG a0=some r):Fn Tryz.prog 291 [.agg (bS a0)] [.agg (qM [.o,.o,.o] (cy r))]:=by
 refine fI Tryz.func291 Tryz.ntmps291 ?_
 obtain⟨r1,q1,H⟩:=ob H
 refine nA (ca (hF:=fQ q1)) ?_
 cases H
 exact ah
end Go.AM
