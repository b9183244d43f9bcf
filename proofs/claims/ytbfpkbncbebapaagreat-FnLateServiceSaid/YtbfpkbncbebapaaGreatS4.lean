/- A part. -/
import Derived.Test.YtbfpkbncbebapaaGreatS2
set_option linter.unusedVariables false
open Option renaming bind->aaC
open List renaming cons_ne_nil->aaD,range->YQ
namespace Go.AM
open Go.Proofs
open Tryz
attribute [local irreducible] AWN NS AWO AWR AWC DR dO ip
set_option maxRecDepth 100000
set_option maxHeartbeats 40000000
def nW (a0:aU) (a1:List aP) (a2:bz) (a3:Int):(Int×List av×List ae×List aw)->Option (cK (Int×List av×List ae×List aw) (List av×List ae×List aw))
 |(v6,v7,v8,v9)=>bif ltB v6 (a1.length:Int) then(aaC (ix a1 v6) λx17=>bif !eqB (a0.aZ.length:Int) 0 then(aaC (vj (⟨x17.ID,x17.eR,x17.cQ⟩:qf) (Int.tmod v6 (a0.aZ.length:Int))) λr18=>bif em 144 (v9++[{r18 with aT:={dV with bb:=r18.aT.bb}}]).length then(aaC (sV x17 a2 v6) λr19=>bif em 288 (v8++[{r19 with ax:=[],aq:=(⟨r19.aq.bb,[]⟩:bh)}]).length then(aaC (sT a3) λr20=>bif em 48 (v7++[{r20 with ay:=[]}]).length then(some (.next (WR (v6+1),(v7++[{r20 with ay:=[]}]),(v8++[{r19 with ax:=[],aq:=(⟨r19.aq.bb,[]⟩:bh)}]),(v9++[{r18 with aT:={dV with bb:=r18.aT.bb}}])))) else none) else none) else none) else none) else(some (.done (v7,v8,v9)))
def sU (a0:aU) (a1:List aP) (a2:bz) (a3:Int):Option ab:=
 aaC (sS a0) λr1=>aaC (bif !r1 then(some true) else(aaC (iP a2) λr3=>bif !r3 then(some true) else(aaC (sY a1) λr4=>some (!r4)))) λ(v2:Bool)=>bif v2 then(some {eX with bX:=(⟨[]⟩:aU)}) else(aaC (Ao a0) λr5=>aaC (iter (nW a0 a1 a2 a3) FU (0,([]:List av),([]:List ae),([]:List aw))) λ((v14,v15,v16):List av×List ae×List aw)=>some (⟨r5,v16,v15,v14,[],0,(⟨2,3⟩:cd),0,0⟩:ab))
theorem yp {a0:aU} {a1:List aP} {a2:bz} {a3:Int} {r:ab} (H:sU a0 a1 a2 a3=some r):FnV prog 136 [] [.v (.agg [.d false (.l (a0.aZ.map dL))]),.v (.c (.d false (.l (a1.map cE)))),.v (.agg (kM [.f] (dw a2))),tI a3] [] (.v (.agg (kM [.n 210,.n 211,.n 212,.n 213,.z] (bD {r with aA:=[]})))) [(210,VD r.bX.aZ),(211,n86 r.ah),(212,n69 r.aj),(213,n89 r.aB)]:=by
 refine fV func136 ntmps136 ?_
 refine aa H λr1 q1 H=>nA (ca (hF:=Fz q1)) ?_
 refine aa H λv2 Hj H=>jR ⟨[(1,.v (.c (.d false (.l (a1.map cE))))),(3,tI a3),(4,tP 210),(6,tP 211),(8,tP 212),(24,tB v2)],[(210,.var 26 [.d false (.l (a0.aZ.map dL))]),(211,.var 59 (kM [.f] (dw a2))),(212,.var 34 (kM [.z,.z,.z,.z,.z] (bD {eX with bX:=(⟨[]⟩:aU)})))],213⟩ ?_ ?_
 .refine gC Hj ?_ ?_<;>intro H
  .exact ai H
  refine aa H λr3 q3 H=>nG (ca (hF:=vi q3)) ?_
  refine gC H ?_ ?_<;>intro H
  .exact ai H
  refine aa H λr4 q4 H=>nG (ca (hF:=FD q4)) ?_
  exact ai H
 refine cC H ?_ ?_<;>intro H
 .cases H
  refine bO ((gU (o:=212) (j:=0) 158 2 true)) ?_
  refine bO ((gU (o:=212) (j:=1) 86 14 true)) ?_
  refine bO ((gU (o:=212) (j:=2) 69 30 true)) ?_
  refine bO ((gU (o:=212) (j:=3) 89 4 true)) ?_
  refine bO (wS 213 210) ?_
  refine bO (wS 214 211) ?_
  refine bO (wS 215 212) ?_
  refine bO (wS 216 213) ?_
  refine bO ((wB 210 (([]:List eY).length))) ?_
  refine bO ((wB 211 (([]:List aw).length))) ?_
  refine bO ((wB 212 (([]:List ae).length))) ?_
  refine bO ((wB 213 (([]:List av).length))) ?_
  exact cV
 refine aa H λr5 q5 H=>sA (cwv [] [(210,213)] 214 (MN q5)) ?_
 obtain⟨⟨v14,v15,v16⟩,Hj,H⟩:=ob H
 refine jB ⟨[(8,tP 212),(9,tP 214)],(oM [.n 213,.n 215,.n 216,.n 217,.z] 214 34 (bD (⟨r5,v16,v15,v14,[],0,(⟨2,3⟩:cd),0,0⟩:ab))++[(212,.var 34 (kM [.z,.z,.z,.z,.z] (bD {eX with bX:=(⟨[]⟩:aU)})))]),218⟩ ?_ ?_
 .refine iT Hj (λq=>⟨[(1,.v (.c (.d false (.l (a1.map cE))))),(3,tI a3),(4,tP 210),(6,tP 211),(8,tP 212),(9,tP 214),(10,tI q.1)],(oM [.n 213,.n 215,.n 216,.n 217,.z] 214 34 (bD (⟨r5,q.2.2.2,q.2.2.1,q.2.1,[],0,(⟨2,3⟩:cd),0,0⟩:ab))++[(210,.var 26 [.d false (.l (a0.aZ.map dL))]),(211,.var 59 (kM [.f] (dw a2))),(212,.var 34 (kM [.z,.z,.z,.z,.z] (bD {eX with bX:=(⟨[]⟩:aU)})))]),218⟩) ?_ (by refine aH (gU (o:=214) (j:=1) 86 14 true) ?_;refine aH (gU (o:=214) (j:=2) 69 30 true) ?_;refine aH (gU (o:=214) (j:=3) 89 4 true) ?_;refine aH (wB 215 (([]:List aw).length)) ?_;refine aH (wB 216 (([]:List ae).length)) ?_;refine aH (wB 217 (([]:List av).length)) ?_;exact wo)
  rintro⟨v6,v7,v8,v9⟩ o H
  try dsimp only
  refine wI ?_
  refine cC H ?_ ?_<;>intro H
  .refine aa H λx17 hx17 H=>nA (xdT (enc:=cE) hx17) ?_
   refine zI (YQ 19) ?_
   obtain⟨h,H⟩:=rq H
   refine zA (ir rfl rfl rfl (ne0 h)) ?_
   refine aa H λr18 q18 H=>zA (ca (hF:=Ir q18)) ?_
   obtain⟨h,H⟩:=rq H
   refine zB b7 (jp rfl (Hn (enc:=dq) (ys:=v9) (zs:=[{r18 with aT:={dV with bb:=r18.aT.bb}}]) h (by first|exact aaD _ _|simp) rfl (λ_=>rfl) (by first|rfl|simp) (.w rfl (by first|rfl|exact lm _|simp)) rfl rfl rfl rfl rfl rfl rfl rfl rfl rfl)) b7 ?_
   refine wA (spx 100072) ?_
   refine zI (YQ 10) ?_
   refine aa H λr19 q19 H=>zA (ca (hF:=(FB q19).frzs (by repeat (first|exact trivial|refine⟨?_,?_⟩|exact lm _|rfl)))) ?_
   obtain⟨h,H⟩:=rq H
   refine zB b7 (jp rfl (Hn (enc:=cG) (ys:=v8) (zs:=[{r19 with ax:=[],aq:=(⟨r19.aq.bb,[]⟩:bh)}]) h (by first|exact aaD _ _|simp) rfl (λ_=>rfl) (by first|rfl|simp) (.w rfl (by first|rfl|exact lm _|simp)) rfl rfl rfl rfl rfl rfl rfl rfl rfl rfl)) b7 ?_
   refine wA (spx 100071) ?_
   refine zI (YQ 8) ?_
   refine aa H λr20 q20 H=>zA (ca (hF:=FA q20)) ?_
   obtain⟨h,H⟩:=rq H
   refine zB b7 (jp rfl (Hn (enc:=dB) (ys:=v7) (zs:=[{r20 with ay:=[]}]) h (by first|exact aaD _ _|simp) rfl (λ_=>rfl) (by first|rfl|simp) (.w rfl (by first|rfl|exact lm _|simp)) rfl rfl rfl rfl rfl rfl rfl rfl rfl rfl)) b7 ?_
   refine wA (spx 100070) ?_
   cases H
   refine eA ?_
   refine aH (lk 215) ?_
   refine aH (lk 216) ?_
   refine aH (lk 217) ?_
   exact wo
  cases H
  refine et (λhq=>?_)
  cases hq
  refine wI ?_
  exact wo
 cases H
 refine bO (wS 213 210) ?_
 refine bO (wS 215 211) ?_
 refine bO (wS 216 212) ?_
 refine bO (wS 217 213) ?_
 exact cV
def rU:(Int×List aP×bV)->Option (cK (Int×List aP×bV) (List aP×bV))
 |(v2,v6,v7)=>bif ltB 0 v2 then(aaC (IE v7) λr15=>aaC (gG r15.2 20) λr16=>bif em 32 (v6++[(⟨(⟨1,v2⟩:du),r15.1,r16.1⟩:aP)]).length then(some (.next (WR (v2-1),(v6++[(⟨(⟨1,v2⟩:du),r15.1,r16.1⟩:aP)]),r16.2))) else none) else(some (.done (v6,v7)))
def mx (a0:bV):Option (List aP×bV):=
 aaC (gG a0 3) λr1=>aaC (iter (rU) FU (WR (1+r1.1),([]:List aP),r1.2)) λ((v13,v14):List aP×bV)=>some (v13,v14)
theorem sZ {a0:bV} {r:List aP×bV} (H:mx a0=some r):FnW prog 138 (.var 148 (kM [.f] (eh a0))) [tP 200] (.var 148 (kM [.f] (eh r.2))) [.c (.own 56 4 (r.1.map cE) r.1.length)]:=by
 refine fW func138 ntmps138 ?_
 refine aa H λr1 q1 H=>sA (cw (o:=200) (fU q1)) ?_
 obtain⟨⟨v13,v14⟩,Hj,H⟩:=ob H
 refine jB ⟨[(3,.v (.c (.w 210 v13.length)))],[(200,.var 148 (kM [.f] (eh v14))),(210,w56 v13)],211⟩ ?_ ?_
 .refine iT Hj (λq=>⟨[(0,tP 200),(3,.v (.c (.w 210 q.2.1.length))),(4,tI q.1)],[(200,.var 148 (kM [.f] (eh q.2.2))),(210,w56 q.2.1)],211⟩) ?_
  rintro⟨v2,v6,v7⟩ o H
  try dsimp only
  refine wI ?_
  refine cC H ?_ ?_<;>intro H
  .refine aa H λr15 q15 H=>sA (cw (o:=200) (Ue q15)) ?_
   refine aa H λr16 q16 H=>sA (cw (o:=200) (fU q16)) ?_
   obtain⟨h,H⟩:=rq H
   refine sA (apT (enc:=cE) (ys:=v6) (zs:=[(⟨(⟨1,v2⟩:du),r15.1,r16.1⟩:aP)]) h) ?_
   cases H
   refine eA ?_
   exact wo
  cases H
  refine et (λhq=>?_)
  cases hq
  refine wI ?_
  exact wo
 cases H
 exact pf
def o5 (a0:ae) (a1:List Int):Option (ae×Bool):=
 aaC (Ay a0) λr1=>aaC (bif leB 24 (a0.ax.length:Int) then(some true) else(some (ltB 60 (a1.length:Int)))) λ(v2:Bool)=>bif v2 then(some (r1,false)) else(aaC (EL a1) λr3=>bif em 24 (r1.ax++[r3]).length then(some ({r1 with ax:=(r1.ax++[r3])},true)) else none)
theorem Cz {a0:ae} {a1:List Int} {r:ae×Bool} (H:o5 a0 a1=some r):Fn prog 139 [.agg (cG a0),aL (a1.map eU8)] [.agg (qM [.o,.o,.o] (cW r.1)),.c (.d (.b r.2))]:=by
 refine fI func139 ntmps139 ?_
 refine aa H λr1 q1 H=>nA (ca (hF:=MX q1)) ?_
 refine aa H λv2 Hj H=>jR ⟨[(1,.v (.c (.d false (.l (a1.map eU8))))),(4,tP 1),(6,tP 5),(17,tB v2)],(oM [.w 2,.w 3,.w 4] 5 69 (cW r1)++[(1,.var 69 (kM [.z,.z,.z] (cW qO)))]),6⟩ ?_ ?_
 .refine gC Hj ?_ ?_<;>intro H
  .exact ai H
  exact ai H
 refine cC H ?_ ?_<;>intro H
 .exact ao H
 refine zI (YQ 8) ?_
 refine aa H λr3 q3 H=>zA (ca (hF:=(MT q3).frzs (by repeat (first|exact trivial|refine⟨?_,?_⟩|exact lm _|rfl)))) ?_
 obtain⟨h,H⟩:=rq H
 refine zB b7 (jp rfl (apT (enc:=cg) (ys:=r1.ax) (zs:=[r3]) h)) b7 ?_
 refine wA (spx 100076) ?_
 exact ao H
def Ax (a0:aw):Option bg:=
 aaC (xf a0) λr1=>some (⟨r1,([]:List aR)⟩:bg)
theorem MV {a0:aw} {r:bg} (H:Ax a0=some r):Fn prog 217 [.agg (dq a0)] [.agg (qM [.o,.o,.o] (cM r))]:=by
 refine fI func217 ntmps217 ?_
 refine aa H λr1 q1 H=>nA (ca (hF:=EM q1)) ?_
 cases H
 refine tQ (wB 4 (([]:List aR).length)) ?_
 exact ku
def vg (a0:ab) (a1:Int):Option Bool:=
 aaC (pG a0 a1) λr1=>bif !r1 then(some false) else(aaC (ix a0.aj a1) λx2=>aaC (oX x2 (x2.ax.length:Int)) λr3=>aaC (oY a0 a1) λr4=>aaC (ix a0.aB a1) λx5=>aaC (mw x2.bC) λr6=>some (leB (WR (r3-r4)) (WR (x5.bK+r6))))
theorem Iq {a0:ab} {a1:Int} {r:Bool} (H:vg a0 a1=some r):Fn prog 28 [.agg (fC a0),aI a1] [.c (.d (.b r))]:=by
 refine fI func28 ntmps28 ?_
 refine aa H λr1 q1 H=>nA (ca (hF:=yq q1)) ?_
 refine cC H ?_ ?_<;>intro H
 .exact ao H
 refine aa H λx2 hx2 H=>nA (xdT (enc:=cG) hx2) ?_
 refine dI ?_
 refine aa H λr3 q3 H=>dA (ca (hF:=Cv q3)) ?_
 refine aa H λr4 q4 H=>dA (ca (hF:=Cw q4)) ?_
 refine aa H λx5 hx5 H=>dA (xdT (enc:=dB) hx5) ?_
 refine aa H λr6 q6 H=>dA (ca (hF:=Ak q6)) ?_
 refine wI ?_
 exact ao H
end Go.AM
