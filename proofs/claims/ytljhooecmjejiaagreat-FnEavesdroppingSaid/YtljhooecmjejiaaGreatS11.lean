/- A part. -/
import Derived.Test.YtljhooecmjejiaaGreatS6
set_option linter.unusedVariables false
open Option renaming bind→Vj
open List renaming cons_ne_nil→Vk,range→TU
namespace Go.AM
open Go.Proofs
attribute [local irreducible] AWN NS AWO AWR AWC DR cZ ey
set_option maxRecDepth 100000
set_option maxHeartbeats 40000000
def oR:(Int×List aC×aE)→Option (cp (Int×List aC×aE) (List aC×aE))
 |(v2,v6,v7)=>bif ltB 0 v2 then(Vj (vY v7) fun r15=>Vj (bS r15.2 20) fun r16=>bif cM 32 (v6++[(⟨(⟨1,v2⟩:dF),r15.1,r16.1⟩:aC)]).length then(some (.next (WR (v2-1),(v6++[(⟨(⟨1,v2⟩:dF),r15.1,r16.1⟩:aC)]),r16.2))) else none) else(some (.done (v6,v7)))
def jQ (a0:aE):Option (List aC×aE):=
 Vj (bS a0 3) fun r1=>Vj (iter (oR) FU (WR (1+r1.1),([]:List aC),r1.2)) fun((v13,v14):List aC×aE)=>some (v13,v14)
theorem pG {a0:aE} {r:List aC×aE} (H:jQ a0=some r):FnW Tryz.prog 127 (.var 143 (kM [.f] (bg a0))) [tP 200] (.var 143 (kM [.f] (bg r.2))) [.c (.own 47 4 (r.1.map ct) r.1.length)]:=by
 refine fW Tryz.func127 Tryz.ntmps127 ?_
 obtain⟨r1,q1,H⟩:=ob H
 refine sA (cw (o:=200) (bz q1)) ?_
 obtain⟨⟨v13,v14⟩,Hj,H⟩:=ob H
 refine jB ⟨[(3,.v (.c (.w 210 v13.length)))],[(200,.var 143 (kM [.f] (bg v14))),(210,w47 v13)],211⟩ ?_ ?_
 ·refine iT Hj (fun q=>⟨[(0,tP 200),(3,.v (.c (.w 210 q.2.1.length))),(4,tI q.1)],[(200,.var 143 (kM [.f] (bg q.2.2))),(210,w47 q.2.1)],211⟩) ?_
  rintro⟨v2,v6,v7⟩ o H
  try dsimp only
  refine wI ?_
  refine cC H ?_ ?_<;>intro H
  ·obtain⟨r15,q15,H⟩:=ob H
   refine sA (cw (o:=200) (Hw q15)) ?_
   obtain⟨r16,q16,H⟩:=ob H
   refine sA (cw (o:=200) (bz q16)) ?_
   obtain⟨h,H⟩:=rq H
   refine sA (apT (enc:=ct) (ys:=v6) (zs:=[(⟨(⟨1,v2⟩:dF),r15.1,r16.1⟩:aC)]) h) ?_
   cases H
   refine dU ?_
   exact wo
  ·cases H
   refine dT (fun hq=>?_)
   cases hq
   refine wI ?_
   exact wo
 cases H
 exact eu
def jF (a0:ag) (a1:List Int):Option (ag×Bool):=
 Vj (gh a0) fun r1=>Vj (bif leB 24 ((a0.ax.length:Nat):Int) then(some true) else(some (ltB 60 ((a1.length:Nat):Int)))) fun(v2:Bool)=>bif v2 then(some (r1,false)) else(Vj (BB a1) fun r3=>bif cM 24 (r1.ax++[r3]).length then(some ({r1 with ax:=(r1.ax++[r3])},true)) else none)
theorem sm {a0:ag} {a1:List Int} {r:ag×Bool} (H:jF a0 a1=some r):Fn Tryz.prog 128 [.agg (bZ a0),aL (a1.map eU8)] [.agg (qM [.o,.o,.o] (cF r.1)),.c (.d (.b r.2))]:=by
 refine fI Tryz.func128 Tryz.ntmps128 ?_
 obtain⟨r1,q1,H⟩:=ob H
 refine nA (ca (hF:=fX q1)) ?_
 obtain⟨v2,Hj,H⟩:=ob H
 refine jR ⟨[(1,.v (.c (.d false (.l (a1.map eU8))))),(4,tP 1),(6,tP 5),(17,tB v2)],(oM [.w 2,.w 3,.w 4] 5 60 (cF r1)++[(1,.var 60 (kM [.z,.z,.z] (cF uH)))]),6⟩ ?_ ?_
 ·have H:=Hj
  refine gC H ?_ ?_<;>intro H
  ·cases H
   exact wo
  ·cases H
   exact wo
 refine cC H ?_ ?_<;>intro H
 ·cases H
  exact ah
 ·refine zI (TU 8) ?_
  obtain⟨r3,q3,H⟩:=ob H
  refine zA (ca (hF:=(IV q3).frzs (by repeat (first|exact trivial|refine⟨?_,?_⟩|exact lm _|rfl)))) ?_
  obtain⟨h,H⟩:=rq H
  refine zB bO (f8 rfl (apT (enc:=dQ) (ys:=r1.ax) (zs:=[r3]) h)) bO ?_
  refine wA (spx 100076) ?_
  cases H
  exact ah
def oJ (a0:az):Option aU:=
 Vj (ic a0) fun r1=>some (⟨r1,([]:List aA)⟩:aU)
theorem rF {a0:az} {r:aU} (H:oJ a0=some r):Fn Tryz.prog 200 [.agg (dE a0)] [.agg (qM [.o,.o,.o] (cA r))]:=by
 refine fI Tryz.func200 Tryz.ntmps200 ?_
 obtain⟨r1,q1,H⟩:=ob H
 refine nA (ca (hF:=gT q1)) ?_
 cases H
 refine cG (wB 4 (([]:List aA).length)) ?_
 exact ah
def pB (a0:ab):(Int×List az)→Option (cp (Int×List az) (List az))
 |(v2,v3)=>bif ltB v2 ((a0.am.length:Nat):Int) then(Vj (ix a0.am v2) fun x7=>Vj (ic x7) fun r8=>bif cM 144 (v3++[r8]).length then(some (.next (WR (v2+1),(v3++[r8])))) else none) else(some (.done v3))
def pC (a0:ab):(Int×List ag)→Option (cp (Int×List ag) (List ag))
 |(v9,v10)=>bif ltB v9 ((a0.ai.length:Nat):Int) then(Vj (ix a0.ai v9) fun x14=>Vj (gh x14) fun r15=>bif cM 288 (v10++[r15]).length then(some (.next (WR (v9+1),(v10++[r15])))) else none) else(some (.done v10))
def pD (a0:ab):(Int×List aj)→Option (cp (Int×List aj) (List aj))
 |(v16,v17)=>bif ltB v16 ((a0.bh.length:Nat):Int) then(Vj (ix a0.bh v16) fun x21=>Vj (jI x21) fun r22=>bif cM 48 (v17++[r22]).length then(some (.next (WR (v16+1),(v17++[r22])))) else none) else(some (.done v17))
def pE (a0:ab):(Int×List bD)→Option (cp (Int×List bD) (List bD))
 |(v23,v24)=>bif ltB v23 ((a0.ay.length:Nat):Int) then(Vj (ix a0.ay v23) fun x28=>Vj (oO x28) fun r29=>bif cM 176 (v24++[r29]).length then(some (.next (WR (v23+1),(v24++[r29])))) else none) else(some (.done v24))
def tT (a0:ab):Option ab:=
 Vj (mA a0.dZ) fun r1=>Vj (iter (pB a0) FU (0,([]:List az))) fun(v6:List az)=>Vj (iter (pC a0) FU (0,([]:List ag))) fun(v13:List ag)=>Vj (iter (pD a0) FU (0,([]:List aj))) fun(v20:List aj)=>Vj (iter (pE a0) FU (0,([]:List bD))) fun(v27:List bD)=>some (⟨r1,v6,v13,v20,v27,a0.dt,a0.dY,a0.oX,a0.kv⟩:ab)
theorem BH {a0:ab} {r:ab} (H:tT a0=some r):FnV Tryz.prog 150 [] [.v (.agg (kM [.f,.f,.f,.f,.f] (aH a0)))] [] (.v (.agg (kM [.t,.n 210,.n 211,.n 212,.n 213] (aH r)))) [(210,n45 r.am),(211,n60 r.ai),(212,n66 r.bh),(213,n78 r.ay)]:=by
 refine fV Tryz.func150 Tryz.ntmps150 ?_
 refine zI (TU 14) ?_
 obtain⟨r1,q1,H⟩:=ob H
 refine zA (ca (hF:=IQ q1)) ?_
 refine wA (spx 100306) ?_
 obtain⟨v6,Hj,H⟩:=ob H
 refine jB ⟨[(1,tP 210),(2,tP 211),(3,tP 212)],(oM [.t,.n 213,.z,.z,.z] 212 34 (aH (⟨r1,v6,[],[],[],a0.dt,a0.dY,a0.oX,a0.kv⟩:ab))++[(210,.var 34 (kM [.f,.f,.f,.f,.f] (aH a0))),(211,.var 34 (kM [.z,.z,.z,.z,.z] (aH {cX with dZ:=(⟨[]⟩:aM)})))]),214⟩ ?_ ?_
 ·refine iT Hj (fun q=>⟨[(1,tP 210),(2,tP 211),(3,tP 212),(4,tI q.1)],(oM [.t,.n 213,.z,.z,.z] 212 34 (aH (⟨r1,q.2,[],[],[],a0.dt,a0.dY,a0.oX,a0.kv⟩:ab))++[(210,.var 34 (kM [.f,.f,.f,.f,.f] (aH a0))),(211,.var 34 (kM [.z,.z,.z,.z,.z] (aH {cX with dZ:=(⟨[]⟩:aM)})))]),214⟩) ?_ (by refine an (c7 (o:=212) (j:=1) 45 14 true) ?_;refine an (wB 213 (([]:List az).length)) ?_;exact wo)
  rintro⟨v2,v3⟩ o H
  try dsimp only
  refine wI ?_
  refine cC H ?_ ?_<;>intro H
  ·refine zI (TU 12) ?_
   obtain⟨x7,hx7,H⟩:=ob H
   refine zA (xdT (enc:=dE) hx7) ?_
   obtain⟨r8,q8,H⟩:=ob H
   refine zA (ca (hF:=(gT q8).frzs (by repeat (first|exact trivial|refine⟨?_,?_⟩|exact lm _|rfl)))) ?_
   obtain⟨h,H⟩:=rq H
   refine zB bO (f8 rfl (xL (enc:=dE) (ys:=v3) (zs:=[r8]) h (by first|exact Vk _ _|simp) rfl (fun _=>rfl) (by first|rfl|simp) (.w rfl (by first|rfl|exact lm _|simp)) rfl rfl rfl rfl rfl rfl rfl rfl rfl rfl)) bO ?_
   refine wA (spx 100290) ?_
   cases H
   refine dU ?_
   refine an (c8 213) ?_
   exact wo
  ·cases H
   refine dT (fun hq=>?_)
   cases hq
   refine wI ?_
   exact wo
 obtain⟨v13,Hj,H⟩:=ob H
 refine jB ⟨[(1,tP 210),(2,tP 211),(3,tP 212)],(oM [.t,.n 213,.n 214,.z,.z] 212 34 (aH (⟨r1,v6,v13,[],[],a0.dt,a0.dY,a0.oX,a0.kv⟩:ab))++[(210,.var 34 (kM [.f,.f,.f,.f,.f] (aH a0))),(211,.var 34 (kM [.z,.z,.z,.z,.z] (aH {cX with dZ:=(⟨[]⟩:aM)})))]),215⟩ ?_ ?_
 ·refine iT Hj (fun q=>⟨[(1,tP 210),(2,tP 211),(3,tP 212),(5,tI q.1)],(oM [.t,.n 213,.n 214,.z,.z] 212 34 (aH (⟨r1,v6,q.2,[],[],a0.dt,a0.dY,a0.oX,a0.kv⟩:ab))++[(210,.var 34 (kM [.f,.f,.f,.f,.f] (aH a0))),(211,.var 34 (kM [.z,.z,.z,.z,.z] (aH {cX with dZ:=(⟨[]⟩:aM)})))]),215⟩) ?_ (by refine an (c7 (o:=212) (j:=2) 60 30 true) ?_;refine an (wB 214 (([]:List ag).length)) ?_;exact wo)
  rintro⟨v9,v10⟩ o H
  try dsimp only
  refine wI ?_
  refine cC H ?_ ?_<;>intro H
  ·refine zI (TU 12) ?_
   obtain⟨x14,hx14,H⟩:=ob H
   refine zA (xdT (enc:=bZ) hx14) ?_
   obtain⟨r15,q15,H⟩:=ob H
   refine zA (ca (hF:=(fX q15).frzs (by repeat (first|exact trivial|refine⟨?_,?_⟩|exact lm _|rfl)))) ?_
   obtain⟨h,H⟩:=rq H
   refine zB bO (f8 rfl (xL (enc:=bZ) (ys:=v10) (zs:=[r15]) h (by first|exact Vk _ _|simp) rfl (fun _=>rfl) (by first|rfl|simp) (.w rfl (by first|rfl|exact lm _|simp)) rfl rfl rfl rfl rfl rfl rfl rfl rfl rfl)) bO ?_
   refine wA (spx 100295) ?_
   cases H
   refine dU ?_
   refine an (c8 214) ?_
   exact wo
  ·cases H
   refine dT (fun hq=>?_)
   cases hq
   refine wI ?_
   exact wo
 obtain⟨v20,Hj,H⟩:=ob H
 refine jB ⟨[(1,tP 210),(2,tP 211),(3,tP 212)],(oM [.t,.n 213,.n 214,.n 215,.z] 212 34 (aH (⟨r1,v6,v13,v20,[],a0.dt,a0.dY,a0.oX,a0.kv⟩:ab))++[(210,.var 34 (kM [.f,.f,.f,.f,.f] (aH a0))),(211,.var 34 (kM [.z,.z,.z,.z,.z] (aH {cX with dZ:=(⟨[]⟩:aM)})))]),216⟩ ?_ ?_
 ·refine iT Hj (fun q=>⟨[(1,tP 210),(2,tP 211),(3,tP 212),(6,tI q.1)],(oM [.t,.n 213,.n 214,.n 215,.z] 212 34 (aH (⟨r1,v6,v13,q.2,[],a0.dt,a0.dY,a0.oX,a0.kv⟩:ab))++[(210,.var 34 (kM [.f,.f,.f,.f,.f] (aH a0))),(211,.var 34 (kM [.z,.z,.z,.z,.z] (aH {cX with dZ:=(⟨[]⟩:aM)})))]),216⟩) ?_ (by refine an (c7 (o:=212) (j:=3) 66 4 true) ?_;refine an (wB 215 (([]:List aj).length)) ?_;exact wo)
  rintro⟨v16,v17⟩ o H
  try dsimp only
  refine wI ?_
  refine cC H ?_ ?_<;>intro H
  ·refine zI (TU 12) ?_
   obtain⟨x21,hx21,H⟩:=ob H
   refine zA (xdT (enc:=dB) hx21) ?_
   obtain⟨r22,q22,H⟩:=ob H
   refine zA (ca (hF:=(kf q22).frzs (by repeat (first|exact trivial|refine⟨?_,?_⟩|exact lm _|rfl)))) ?_
   obtain⟨h,H⟩:=rq H
   refine zB bO (f8 rfl (xL (enc:=dB) (ys:=v17) (zs:=[r22]) h (by first|exact Vk _ _|simp) rfl (fun _=>rfl) (by first|rfl|simp) (.w rfl (by first|rfl|exact lm _|simp)) rfl rfl rfl rfl rfl rfl rfl rfl rfl rfl)) bO ?_
   refine wA (spx 100300) ?_
   cases H
   refine dU ?_
   refine an (c8 215) ?_
   exact wo
  ·cases H
   refine dT (fun hq=>?_)
   cases hq
   refine wI ?_
   exact wo
 obtain⟨v27,Hj,H⟩:=ob H
 refine jB ⟨[(2,tP 211),(3,tP 212)],(oM [.t,.n 213,.n 214,.n 215,.n 216] 212 34 (aH (⟨r1,v6,v13,v20,v27,a0.dt,a0.dY,a0.oX,a0.kv⟩:ab))++[(211,.var 34 (kM [.z,.z,.z,.z,.z] (aH {cX with dZ:=(⟨[]⟩:aM)})))]),217⟩ ?_ ?_
 ·refine iT Hj (fun q=>⟨[(1,tP 210),(2,tP 211),(3,tP 212),(7,tI q.1)],(oM [.t,.n 213,.n 214,.n 215,.n 216] 212 34 (aH (⟨r1,v6,v13,v20,q.2,a0.dt,a0.dY,a0.oX,a0.kv⟩:ab))++[(210,.var 34 (kM [.f,.f,.f,.f,.f] (aH a0))),(211,.var 34 (kM [.z,.z,.z,.z,.z] (aH {cX with dZ:=(⟨[]⟩:aM)})))]),217⟩) ?_ (by refine an (c7 (o:=212) (j:=4) 78 21 true) ?_;refine an (wB 216 (([]:List bD).length)) ?_;exact wo)
  rintro⟨v23,v24⟩ o H
  try dsimp only
  refine wI ?_
  refine cC H ?_ ?_<;>intro H
  ·refine zI (TU 12) ?_
   obtain⟨x28,hx28,H⟩:=ob H
   refine zA (xdT (enc:=dK) hx28) ?_
   obtain⟨r29,q29,H⟩:=ob H
   refine zA (ca (hF:=(xy q29).frzs (by repeat (first|exact trivial|refine⟨?_,?_⟩|exact lm _|rfl)))) ?_
   obtain⟨h,H⟩:=rq H
   refine zB bO (f8 rfl (xL (enc:=dK) (ys:=v24) (zs:=[r29]) h (by first|exact Vk _ _|simp) rfl (fun _=>rfl) (by first|rfl|simp) (.w rfl (by first|rfl|exact lm _|simp)) rfl rfl rfl rfl rfl rfl rfl rfl rfl rfl)) bO ?_
   refine wA (spx 100305) ?_
   cases H
   refine dU ?_
   refine an (c8 216) ?_
   exact wo
  ·cases H
   refine dT (fun hq=>?_)
   cases hq
   refine wI ?_
   exact wo
 cases H
 refine bV (wS 213 210) ?_
 refine bV (wS 214 211) ?_
 refine bV (wS 215 212) ?_
 refine bV (wS 216 213) ?_
 exact bU
def ec (a0:Int) (a1:List Int):Option Int:=
 bif cM 8 ([a0]++a1).length then(bif cM 8 (([a0]++a1)++[a0]).length then(Vj (Kv (([a0]++a1)++[a0])) fun r1=>some r1) else none) else none
theorem d7 {a0:Int} {a1:List Int} {r:Int} (H:ec a0 a1=some r):Fn Tryz.prog 166 [aI a0,aL (a1.map eI)] [.c (.d (.i .i64 r))]:=by
 refine fI Tryz.func166 Tryz.ntmps166 ?_
 obtain⟨h,H⟩:=rq H
 refine eS rfl (apT (enc:=eI) (ys:=[a0]) (zs:=a1) h) ?_
 refine aW (ji (enc:=eI) (o:=0)) ?_
 obtain⟨h,H⟩:=rq H
 refine sA (apT (enc:=eI) (ys:=([a0]++a1)) (zs:=[a0]) h) ?_
 obtain⟨r1,q1,H⟩:=ob H
 refine nA (ca (hF:=QH q1)) ?_
 cases H
 exact ah
end Go.AM
