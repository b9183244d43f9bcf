/- A part. -/
import Derived.Test.YtbfpkbncbebapaaGreatS1
set_option linter.unusedVariables false
open Option renaming bind->aaC
namespace Go.AM
open Go.Proofs
open Tryz
attribute [local irreducible] AWN NS AWO AWR AWC DR dO ip
set_option maxRecDepth 100000
set_option maxHeartbeats 40000000
def qD (a0:bV) (a1:Int):Option (Bool×bV):=
 aaC (gG a0 a1) λr1=>some (eqB r1.1 0,r1.2)
theorem uw {a0:bV} {a1:Int} {r:Bool×bV} (H:qD a0 a1=some r):FnW prog 141 (.var 148 (kM [.f] (eh a0))) [tP 200,tI a1] (.var 148 (kM [.f] (eh r.2))) [.c (.d (.b r.1))]:=by
 refine fW func141 ntmps141 ?_
 refine aa H λr1 q1 H=>sA (cw (o:=200) (fU q1)) ?_
 cases H
 exact pf
def B5:(Int×List Int×bV)->Option (cK (Int×List Int×bV) (List Int×bV))
 |(v4,v8,v9)=>bif ltB v4 4 then(aaC (qD v9 3) λr17=>aaC (bif r17.1 then(bif em 8 (v8++[v4]).length then(some (v8++[v4])) else none) else(some v8)) λ(v18:List Int)=>some (.next (WR (v4+1),v18,r17.2))) else(some (.done (v8,v9)))
def Au (a0:bV):Option (bz×bV):=
 aaC (gG a0 9) λr1=>aaC (gG r1.2 4) λr2=>aaC (gG r2.2 20) λr3=>aaC (iter (B5) FU (0,([]:List Int),r3.2)) λ((v15,v16):List Int×bV)=>some ((⟨WR (1+r1.1),WR (1+r2.1),WR (1+r3.1),v15⟩:bz),v16)
theorem MQ {a0:bV} {r:bz×bV} (H:Au a0=some r):FnV prog 135 [(200,.var 148 (kM [.f] (eh a0)))] [tP 200] [(200,.var 148 (kM [.f] (eh r.2)))] (.v (.agg (kM [.n 210] (dw r.1)))) [(210,n3 r.1.bv)]:=by
 refine fV func135 ntmps135 ?_
 refine aa H λr1 q1 H=>sA (cw (o:=200) (fU q1)) ?_
 refine aa H λr2 q2 H=>sA (cw (o:=200) (fU q2)) ?_
 refine aa H λr3 q3 H=>sA (cw (o:=200) (fU q3)) ?_
 obtain⟨⟨v15,v16⟩,Hj,H⟩:=ob H
 refine jB ⟨[(2,tP 210),(3,tP 211)],(oM [.n 212] 211 59 (dw (⟨WR (1+r1.1),WR (1+r2.1),WR (1+r3.1),v15⟩:bz))++[(200,.var 148 (kM [.f] (eh v16))),(210,.var 59 (kM [.z] (dw oh)))]),213⟩ ?_ ?_
 .refine iT Hj (λq=>⟨[(0,tP 200),(2,tP 210),(3,tP 211),(4,tI q.1)],(oM [.n 212] 211 59 (dw (⟨WR (1+r1.1),WR (1+r2.1),WR (1+r3.1),q.2.1⟩:bz))++[(200,.var 148 (kM [.f] (eh q.2.2))),(210,.var 59 (kM [.z] (dw oh)))]),213⟩) ?_ (by refine aH (gU (o:=211) (j:=3) 3 1 true) ?_;refine aH (wB 212 (([]:List Int).length)) ?_;exact wo)
  rintro⟨v4,v8,v9⟩ o H
  try dsimp only
  refine wI ?_
  refine cC H ?_ ?_<;>intro H
  .refine aa H λr17 q17 H=>sA (cw (o:=200) (uw q17)) ?_
   refine aa H λv18 Hj H=>jA ⟨[(0,tP 200),(2,tP 210),(3,tP 211),(4,tI v4)],(oM [.n 212] 211 59 (dw (⟨WR (1+r1.1),WR (1+r2.1),WR (1+r3.1),v18⟩:bz))++[(200,.var 148 (kM [.f] (eh r17.2))),(210,.var 59 (kM [.z] (dw oh)))]),213⟩ ?_ ?_
   .refine cC Hj ?_ ?_<;>intro H
    .obtain⟨h,H⟩:=rq H
     refine sA (Hn (enc:=eI) (ys:=v8) (zs:=[v4]) h (by first|exact List.cons_ne_nil _ _|simp) rfl (λ_=>rfl) (by first|rfl|simp) (.w rfl (by first|rfl|exact lm _|simp)) rfl rfl rfl rfl rfl rfl rfl rfl rfl rfl) ?_
     cases H
     refine aH (lk 212) ?_
     exact wo
    exact ai H
   cases H
   refine eA ?_
   exact wo
  cases H
  refine et (λhq=>?_)
  cases hq
  refine wI ?_
  exact wo
 cases H
 refine bO (wS 212 210) ?_
 exact cV
def gv (a0:aP):Option Bool:=
 aaC (iO a0.ID) λr1=>aaC (bif r1 then(aaC (sR a0.eR) λr3=>bif r3 then(aaC (nX a0.cQ 0 999999) λr4=>some r4) else(some false)) else(some false)) λ(v2:Bool)=>some v2
theorem rQ {a0:aP} {r:Bool} (H:gv a0=some r):Fn prog 268 [.agg (cE a0)] [.c (.d (.b r))]:=by
 refine fI func268 ntmps268 ?_
 refine aa H λr1 q1 H=>nA (ca (hF:=vh q1)) ?_
 refine aa H λv2 Hj H=>jR ⟨[(2,tB v2)],[],0⟩ ?_ ?_
 .refine gC Hj ?_ ?_<;>intro H
  .refine aa H λr3 q3 H=>nG (ca (hF:=Fy q3)) ?_
   refine gC H ?_ ?_<;>intro H
   .refine aa H λr4 q4 H=>nG (ca (hF:=jL q4)) ?_
    exact ai H
   exact ai H
  exact ai H
 exact ao H
def nZ (a0:List aP) (v1:Int):Int->Option (cK (Int) (cK (Int) (Bool)))
 |v4=>bif ltB v4 v1 then(aaC (ix a0 v4) λx5=>aaC (ix a0 v1) λx6=>bif(eqB x5.ID.d8 x6.ID.d8&&(eqB x5.ID.bI x6.ID.bI&&true)) then(dn (dn (some false))) else(some (.next (WR (v4+1))))) else(dn (some (.next (WR (v1+1)))))
def nY (a0:List aP):Int->Option (cK (Int) (Bool))
 |v1=>bif ltB v1 (a0.length:Int) then(aaC (ix a0 v1) λx2=>aaC (gv x2) λr3=>bif !r3 then(dn (some false)) else(iter (nZ a0 v1) FU 0)) else(dn (some (leB (a0.length:Int) 4)))
def sY (a0:List aP):Option Bool:=
 iter (nY a0) FU 0
theorem FD {a0:List aP} {r:Bool} (H:sY a0=some r):Fn prog 208 [aL (a0.map cE)] [.c (.d (.b r))]:=by
 refine fI func208 ntmps208 ?_
 refine iT H (λq=>⟨[(0,.v (.c (.d false (.l (a0.map cE))))),(3,tI q)],[],0⟩) ?_
 rintro v1 o H
 try dsimp only
 refine wI ?_
 refine cC H ?_ ?_<;>intro H
 .refine aa H λx2 hx2 H=>nA (xdT (enc:=cE) hx2) ?_
  refine aa H λr3 q3 H=>nA (ca (hF:=rQ q3)) ?_
  refine cC H ?_ ?_<;>intro H
  .obtain⟨r0,Hd,rfl⟩:=dnE H
   refine mR (λhq=>?_)
   have H:=Hd.trans (congrArg some hq)
   refine wI ?_
   exact ao H
  refine iT H (λq=>⟨[(0,.v (.c (.d false (.l (a0.map cE))))),(3,tI v1),(4,tI q)],[],0⟩) ?_
  rintro v4 o H
  try dsimp only
  refine wI ?_
  refine cC H ?_ ?_<;>intro H
  .refine dI ?_
   refine aa H λx5 hx5 H=>dA (xdT (enc:=cE) hx5) ?_
   refine aa H λx6 hx6 H=>dA (xdT (enc:=cE) hx6) ?_
   refine wI ?_
   refine cC H ?_ ?_<;>intro H
   .obtain⟨r0,Hd,rfl⟩:=dnE H
    refine mR (λhq=>?_)
    have H:=Hd.trans (congrArg some hq)
    refine wI ?_
    obtain⟨r0,Hd,rfl⟩:=dnE H
    refine mR (λhq=>?_)
    have H:=Hd.trans (congrArg some hq)
    refine wI ?_
    exact ao H
   cases H
   refine eA ?_
   exact wo
  obtain⟨r0,Hd,rfl⟩:=dnE H
  refine et (λhq=>?_)
  have H:=Hd.trans (congrArg some hq)
  refine wI ?_
  cases H
  refine eA ?_
  exact wo
 obtain⟨r0,Hd,rfl⟩:=dnE H
 refine et (λhq=>?_)
 have H:=Hd.trans (congrArg some hq)
 refine wI ?_
 exact ao H
def IE (a0:bV):Option (Int×bV):=
 aaC (gG a0 6) λr1=>some (WR (100+r1.1),r1.2)
theorem Ue {a0:bV} {r:Int×bV} (H:IE a0=some r):FnW prog 214 (.var 148 (kM [.f] (eh a0))) [tP 200] (.var 148 (kM [.f] (eh r.2))) [.c (.d (.i .i64 r.1))]:=by
 refine fW func214 ntmps214 ?_
 refine aa H λr1 q1 H=>sA (cw (o:=200) (fU q1)) ?_
 cases H
 exact pf
def Ay (a0:ae):Option ae:=
 aaC (uy a0.gT) λr1=>aaC (rR a0.ax) λr2=>aaC (vr a0.aq) λr3=>some {a0 with gT:=r1,ax:=r2,aq:=r3}
theorem MX {a0:ae} {r:ae} (H:Ay a0=some r):Fn prog 215 [.agg (cG a0)] [.agg (qM [.o,.o,.o] (cW r))]:=by
 refine fI func215 ntmps215 ?_
 refine aa H λr1 q1 H=>nA (ca (hF:=EO q1)) ?_
 refine aa H λr2 q2 H=>nA (ca (hF:=Ar q2)) ?_
 refine aa H λr3 q3 H=>nA (ca (hF:=IA q3)) ?_
 exact ao H
def xf (a0:aw):Option aw:=
 aaC (Av a0.aT) λr1=>some {a0 with aT:=r1}
theorem EM {a0:aw} {r:aw} (H:xf a0=some r):Fn prog 218 [.agg (dq a0)] [.agg (qM [.o,.o] (fL r))]:=by
 refine fI func218 ntmps218 ?_
 refine aa H λr1 q1 H=>nA (ca (hF:=MS q1)) ?_
 exact ao H
def rT (a0:ab) (a1:a9):Option ab:=
 bif leB 200 (a0.aA.length:Int) then(some {a0 with Lost:=WR (a0.Lost+1)}) else(aaC (vu a1) λr1=>bif em 176 (a0.aA++[r1]).length then(some {a0 with aA:=(a0.aA++[r1])}) else none)
theorem MY {a0:ab} {a1:a9} {r:ab} (H:rT a0 a1=some r):FnV prog 143 (nS a0) [tP 200,.v (.agg (kM [.t] (tV a1)))] (nS r) (.tup []) []:=by
 refine fV func143 ntmps143 ?_
 refine cC H ?_ ?_<;>intro H
 .cases H
  exact cV
 refine Nt 0 18 0 [1,2,3,4,5,6,7,8,9,10,11] Try.follows (by kernel_rfl) (by kernel_rfl) rfl (by kernel_rfl) rfl rfl ?_
 refine wI ?_
 refine aa H λr1 q1 H=>zA (ca (hF:=(IC q1).frzs (by repeat (first|exact trivial|refine⟨?_,?_⟩|exact lm _|rfl)))) ?_
 obtain⟨h,H⟩:=rq H
 refine zB b7 (jp rfl (Hn (enc:=eH) (ys:=a0.aA) (zs:=[r1]) h (by first|exact List.cons_ne_nil _ _|simp) rfl (λ_=>rfl) (by first|rfl|simp) (.w rfl (by first|rfl|exact lm _|simp)) rfl rfl rfl rfl rfl rfl rfl rfl rfl rfl)) b7 ?_
 refine wA (spx 100084) ?_
 cases H
 refine bO ((lk 193)) ?_
 exact rf
def mw (a0:dh):Option Int:=
 aaC (oZ a0) λr1=>bif !r1 then(some 0) else(some (WR (a0.cB-a0.d4)))
theorem Ak {a0:dh} {r:Int} (H:mw a0=some r):Fn prog 79 [.agg (sj a0)] [.c (.d (.i .i64 r))]:=by
 refine fI func79 ntmps79 ?_
 refine aa H λr1 q1 H=>nA (ca (hF:=Cy q1)) ?_
 refine cC H ?_ ?_<;>intro H
 .exact ao H
 exact ao H
def oY (a0:ab) (a1:Int):Option Int:=
 aaC (pG a0 a1) λr1=>bif !r1 then(some (-1)) else(aaC (ix a0.aB a1) λx2=>aaC (ix a0.aj a1) λx3=>some (WR (x2.dW+x3.bC.d4)))
theorem Cw {a0:ab} {a1:Int} {r:Int} (H:oY a0 a1=some r):Fn prog 78 [.agg (fC a0),aI a1] [.c (.d (.i .i64 r))]:=by
 refine fI func78 ntmps78 ?_
 refine aa H λr1 q1 H=>nA (ca (hF:=yq q1)) ?_
 refine cC H ?_ ?_<;>intro H
 .exact ao H
 refine dI ?_
 refine aa H λx2 hx2 H=>dA (xdT (enc:=dB) hx2) ?_
 refine aa H λx3 hx3 H=>dA (xdT (enc:=cG) hx3) ?_
 refine wI ?_
 exact ao H
end Go.AM
