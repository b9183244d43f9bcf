/- A part. -/
import Derived.Test.YtljhooecmjejiaaGreatS6
set_option linter.unusedVariables false
open Option renaming bind→Un
open List renaming cons_ne_nil→Uo,range→SO
namespace Go.AM
open Go.Proofs
attribute [local irreducible] AWN NS AWO AWR AWC DR cZ eE
set_option maxRecDepth 100000
set_option maxHeartbeats 40000000
def ox:(Int×List aC×aH)→Option (cB (Int×List aC×aH) (List aC×aH))
 |(v2,v6,v7)=>bif ltB 0 v2 then(Un (vb v7) fun r15=>Un (bZ r15.2 20) fun r16=>bif cS 32 (v6++[(⟨(⟨1,v2⟩:dy),r15.1,r16.1⟩:aC)]).length then(some (.next (WR (v2-1),(v6++[(⟨(⟨1,v2⟩:dy),r15.1,r16.1⟩:aC)]),r16.2))) else none) else(some (.done (v6,v7)))
def jy (a0:aH):Option (List aC×aH):=
 Un (bZ a0 3) fun r1=>Un (iter (ox) FU (WR (1+r1.1),([]:List aC),r1.2)) fun((v13,v14):List aC×aH)=>some (v13,v14)
theorem ph {a0:aH} {r:List aC×aH} (H:jy a0=some r):FnW Tryz.prog 127 (.var 143 (kM [.f] (bI a0))) [tP 200] (.var 143 (kM [.f] (bI r.2))) [.c (.own 47 4 (r.1.map cm) r.1.length)]:=by
 refine fW Tryz.func127 Tryz.ntmps127 ?_
 obtain⟨r1,q1,H⟩:=ob H
 refine sA (cw (o:=200) (bL q1)) ?_
 obtain⟨⟨v13,v14⟩,Hj,H⟩:=ob H
 refine jB ⟨[(3,.v (.c (.w 210 v13.length)))],[(200,.var 143 (kM [.f] (bI v14))),(210,w47 v13)],211⟩ ?_ ?_
 ·refine iT Hj (fun q=>⟨[(0,tP 200),(3,.v (.c (.w 210 q.2.1.length))),(4,tI q.1)],[(200,.var 143 (kM [.f] (bI q.2.2))),(210,w47 q.2.1)],211⟩) ?_
  rintro⟨v2,v6,v7⟩ o H
  try dsimp only
  refine wI ?_
  refine cC H ?_ ?_<;>intro H
  ·obtain⟨r15,q15,H⟩:=ob H
   refine sA (cw (o:=200) (Gh q15)) ?_
   obtain⟨r16,q16,H⟩:=ob H
   refine sA (cw (o:=200) (bL q16)) ?_
   obtain⟨h,H⟩:=rq H
   refine sA (apT (enc:=cm) (ys:=v6) (zs:=[(⟨(⟨1,v2⟩:dy),r15.1,r16.1⟩:aC)]) h) ?_
   cases H
   refine ee ?_
   exact wo
  ·cases H
   refine ed (fun hq=>?_)
   cases hq
   refine wI ?_
   exact wo
 cases H
 exact eB
def jn (a0:ag) (a1:List Int):Option (ag×Bool):=
 Un (ge a0) fun r1=>Un (bif leB 24 ((a0.ao.length:Nat):Int) then(some true) else(some (ltB 60 ((a1.length:Nat):Int)))) fun(v2:Bool)=>bif v2 then(some (r1,false)) else(Un (AD a1) fun r3=>bif cS 24 (r1.ao++[r3]).length then(some ({r1 with ao:=(r1.ao++[r3])},true)) else none)
theorem rC {a0:ag} {a1:List Int} {r:ag×Bool} (H:jn a0 a1=some r):Fn Tryz.prog 128 [.agg (bS a0),aL (a1.map eU8)] [.agg (qM [.o,.o,.o] (cy r.1)),.c (.d (.b r.2))]:=by
 refine fI Tryz.func128 Tryz.ntmps128 ?_
 obtain⟨r1,q1,H⟩:=ob H
 refine nA (ca (hF:=fQ q1)) ?_
 obtain⟨v2,Hj,H⟩:=ob H
 refine jR ⟨[(1,.v (.c (.d false (.l (a1.map eU8))))),(4,tP 1),(6,tP 5),(17,tB v2)],(oM [.w 2,.w 3,.w 4] 5 60 (cy r1)++[(1,.var 60 (kM [.z,.z,.z] (cy tX)))]),6⟩ ?_ ?_
 ·have H:=Hj
  refine gC H ?_ ?_<;>intro H
  ·cases H
   exact wo
  ·cases H
   exact wo
 refine cC H ?_ ?_<;>intro H
 ·cases H
  exact ah
 ·refine zI (SO 8) ?_
  obtain⟨r3,q3,H⟩:=ob H
  refine zA (ca (hF:=(HI q3).frzs (by repeat (first|exact trivial|refine⟨?_,?_⟩|exact lm _|rfl)))) ?_
  obtain⟨h,H⟩:=rq H
  refine zB bT (gq rfl (apT (enc:=cj) (ys:=r1.ao) (zs:=[r3]) h)) bT ?_
  refine wA (spx 100076) ?_
  cases H
  exact ah
def ol (a0:ay):Option aS:=
 Un (ia a0) fun r1=>some (⟨r1,([]:List az)⟩:aS)
theorem qR {a0:ay} {r:aS} (H:ol a0=some r):Fn Tryz.prog 200 [.agg (c7 a0)] [.agg (qM [.o,.o,.o] (cq r))]:=by
 refine fI Tryz.func200 Tryz.ntmps200 ?_
 obtain⟨r1,q1,H⟩:=ob H
 refine nA (ca (hF:=gU q1)) ?_
 cases H
 refine cG (wB 4 (([]:List az).length)) ?_
 exact ah
def o9 (a0:ab):(Int×List ay)→Option (cB (Int×List ay) (List ay))
 |(v2,v3)=>bif ltB v2 ((a0.ai.length:Nat):Int) then(Un (ix a0.ai v2) fun x7=>Un (ia x7) fun r8=>bif cS 144 (v3++[r8]).length then(some (.next (WR (v2+1),(v3++[r8])))) else none) else(some (.done v3))
def pa (a0:ab):(Int×List ag)→Option (cB (Int×List ag) (List ag))
 |(v9,v10)=>bif ltB v9 ((a0.am.length:Nat):Int) then(Un (ix a0.am v9) fun x14=>Un (ge x14) fun r15=>bif cS 288 (v10++[r15]).length then(some (.next (WR (v9+1),(v10++[r15])))) else none) else(some (.done v10))
def pb (a0:ab):(Int×List aj)→Option (cB (Int×List aj) (List aj))
 |(v16,v17)=>bif ltB v16 ((a0.aY.length:Nat):Int) then(Un (ix a0.aY v16) fun x21=>Un (jq x21) fun r22=>bif cS 48 (v17++[r22]).length then(some (.next (WR (v16+1),(v17++[r22])))) else none) else(some (.done v17))
def pc (a0:ab):(Int×List bJ)→Option (cB (Int×List bJ) (List bJ))
 |(v23,v24)=>bif ltB v23 ((a0.aQ.length:Nat):Int) then(Un (ix a0.aQ v23) fun x28=>Un (ou x28) fun r29=>bif cS 176 (v24++[r29]).length then(some (.next (WR (v23+1),(v24++[r29])))) else none) else(some (.done v24))
def s7 (a0:ab):Option ab:=
 Un (mf a0.dW) fun r1=>Un (iter (o9 a0) FU (0,([]:List ay))) fun(v6:List ay)=>Un (iter (pa a0) FU (0,([]:List ag))) fun(v13:List ag)=>Un (iter (pb a0) FU (0,([]:List aj))) fun(v20:List aj)=>Un (iter (pc a0) FU (0,([]:List bJ))) fun(v27:List bJ)=>some (⟨r1,v6,v13,v20,v27,a0.dh,a0.dR,a0.oD,a0.jX⟩:ab)
theorem AJ {a0:ab} {r:ab} (H:s7 a0=some r):FnV Tryz.prog 150 [] [.v (.agg (kM [.f,.f,.f,.f,.f] (aO a0)))] [] (.v (.agg (kM [.t,.n 210,.n 211,.n 212,.n 213] (aO r)))) [(210,n45 r.ai),(211,n60 r.am),(212,n66 r.aY),(213,n78 r.aQ)]:=by
 refine fV Tryz.func150 Tryz.ntmps150 ?_
 refine zI (SO 14) ?_
 obtain⟨r1,q1,H⟩:=ob H
 refine zA (ca (hF:=HD q1)) ?_
 refine wA (spx 100306) ?_
 obtain⟨v6,Hj,H⟩:=ob H
 refine jB ⟨[(1,tP 210),(2,tP 211),(3,tP 212)],(oM [.t,.n 213,.z,.z,.z] 212 34 (aO (⟨r1,v6,[],[],[],a0.dh,a0.dR,a0.oD,a0.jX⟩:ab))++[(210,.var 34 (kM [.f,.f,.f,.f,.f] (aO a0))),(211,.var 34 (kM [.z,.z,.z,.z,.z] (aO {dt with dW:=(⟨[]⟩:aK)})))]),214⟩ ?_ ?_
 ·refine iT Hj (fun q=>⟨[(1,tP 210),(2,tP 211),(3,tP 212),(4,tI q.1)],(oM [.t,.n 213,.z,.z,.z] 212 34 (aO (⟨r1,q.2,[],[],[],a0.dh,a0.dR,a0.oD,a0.jX⟩:ab))++[(210,.var 34 (kM [.f,.f,.f,.f,.f] (aO a0))),(211,.var 34 (kM [.z,.z,.z,.z,.z] (aO {dt with dW:=(⟨[]⟩:aK)})))]),214⟩) ?_ (by refine aq (c8 (o:=212) (j:=1) 45 14 true) ?_;refine aq (wB 213 (([]:List ay).length)) ?_;exact wo)
  rintro⟨v2,v3⟩ o H
  try dsimp only
  refine wI ?_
  refine cC H ?_ ?_<;>intro H
  ·refine zI (SO 12) ?_
   obtain⟨x7,hx7,H⟩:=ob H
   refine zA (xdT (enc:=c7) hx7) ?_
   obtain⟨r8,q8,H⟩:=ob H
   refine zA (ca (hF:=(gU q8).frzs (by repeat (first|exact trivial|refine⟨?_,?_⟩|exact lm _|rfl)))) ?_
   obtain⟨h,H⟩:=rq H
   refine zB bT (gq rfl (yk (enc:=c7) (ys:=v3) (zs:=[r8]) h (by first|exact Uo _ _|simp) rfl (fun _=>rfl) (by first|rfl|simp) (.w rfl (by first|rfl|exact lm _|simp)) rfl rfl rfl rfl rfl rfl rfl rfl rfl rfl)) bT ?_
   refine wA (spx 100290) ?_
   cases H
   refine ee ?_
   refine aq (du 213) ?_
   exact wo
  ·cases H
   refine ed (fun hq=>?_)
   cases hq
   refine wI ?_
   exact wo
 obtain⟨v13,Hj,H⟩:=ob H
 refine jB ⟨[(1,tP 210),(2,tP 211),(3,tP 212)],(oM [.t,.n 213,.n 214,.z,.z] 212 34 (aO (⟨r1,v6,v13,[],[],a0.dh,a0.dR,a0.oD,a0.jX⟩:ab))++[(210,.var 34 (kM [.f,.f,.f,.f,.f] (aO a0))),(211,.var 34 (kM [.z,.z,.z,.z,.z] (aO {dt with dW:=(⟨[]⟩:aK)})))]),215⟩ ?_ ?_
 ·refine iT Hj (fun q=>⟨[(1,tP 210),(2,tP 211),(3,tP 212),(5,tI q.1)],(oM [.t,.n 213,.n 214,.z,.z] 212 34 (aO (⟨r1,v6,q.2,[],[],a0.dh,a0.dR,a0.oD,a0.jX⟩:ab))++[(210,.var 34 (kM [.f,.f,.f,.f,.f] (aO a0))),(211,.var 34 (kM [.z,.z,.z,.z,.z] (aO {dt with dW:=(⟨[]⟩:aK)})))]),215⟩) ?_ (by refine aq (c8 (o:=212) (j:=2) 60 30 true) ?_;refine aq (wB 214 (([]:List ag).length)) ?_;exact wo)
  rintro⟨v9,v10⟩ o H
  try dsimp only
  refine wI ?_
  refine cC H ?_ ?_<;>intro H
  ·refine zI (SO 12) ?_
   obtain⟨x14,hx14,H⟩:=ob H
   refine zA (xdT (enc:=bS) hx14) ?_
   obtain⟨r15,q15,H⟩:=ob H
   refine zA (ca (hF:=(fQ q15).frzs (by repeat (first|exact trivial|refine⟨?_,?_⟩|exact lm _|rfl)))) ?_
   obtain⟨h,H⟩:=rq H
   refine zB bT (gq rfl (yk (enc:=bS) (ys:=v10) (zs:=[r15]) h (by first|exact Uo _ _|simp) rfl (fun _=>rfl) (by first|rfl|simp) (.w rfl (by first|rfl|exact lm _|simp)) rfl rfl rfl rfl rfl rfl rfl rfl rfl rfl)) bT ?_
   refine wA (spx 100295) ?_
   cases H
   refine ee ?_
   refine aq (du 214) ?_
   exact wo
  ·cases H
   refine ed (fun hq=>?_)
   cases hq
   refine wI ?_
   exact wo
 obtain⟨v20,Hj,H⟩:=ob H
 refine jB ⟨[(1,tP 210),(2,tP 211),(3,tP 212)],(oM [.t,.n 213,.n 214,.n 215,.z] 212 34 (aO (⟨r1,v6,v13,v20,[],a0.dh,a0.dR,a0.oD,a0.jX⟩:ab))++[(210,.var 34 (kM [.f,.f,.f,.f,.f] (aO a0))),(211,.var 34 (kM [.z,.z,.z,.z,.z] (aO {dt with dW:=(⟨[]⟩:aK)})))]),216⟩ ?_ ?_
 ·refine iT Hj (fun q=>⟨[(1,tP 210),(2,tP 211),(3,tP 212),(6,tI q.1)],(oM [.t,.n 213,.n 214,.n 215,.z] 212 34 (aO (⟨r1,v6,v13,q.2,[],a0.dh,a0.dR,a0.oD,a0.jX⟩:ab))++[(210,.var 34 (kM [.f,.f,.f,.f,.f] (aO a0))),(211,.var 34 (kM [.z,.z,.z,.z,.z] (aO {dt with dW:=(⟨[]⟩:aK)})))]),216⟩) ?_ (by refine aq (c8 (o:=212) (j:=3) 66 4 true) ?_;refine aq (wB 215 (([]:List aj).length)) ?_;exact wo)
  rintro⟨v16,v17⟩ o H
  try dsimp only
  refine wI ?_
  refine cC H ?_ ?_<;>intro H
  ·refine zI (SO 12) ?_
   obtain⟨x21,hx21,H⟩:=ob H
   refine zA (xdT (enc:=da) hx21) ?_
   obtain⟨r22,q22,H⟩:=ob H
   refine zA (ca (hF:=(jL q22).frzs (by repeat (first|exact trivial|refine⟨?_,?_⟩|exact lm _|rfl)))) ?_
   obtain⟨h,H⟩:=rq H
   refine zB bT (gq rfl (yk (enc:=da) (ys:=v17) (zs:=[r22]) h (by first|exact Uo _ _|simp) rfl (fun _=>rfl) (by first|rfl|simp) (.w rfl (by first|rfl|exact lm _|simp)) rfl rfl rfl rfl rfl rfl rfl rfl rfl rfl)) bT ?_
   refine wA (spx 100300) ?_
   cases H
   refine ee ?_
   refine aq (du 215) ?_
   exact wo
  ·cases H
   refine ed (fun hq=>?_)
   cases hq
   refine wI ?_
   exact wo
 obtain⟨v27,Hj,H⟩:=ob H
 refine jB ⟨[(2,tP 211),(3,tP 212)],(oM [.t,.n 213,.n 214,.n 215,.n 216] 212 34 (aO (⟨r1,v6,v13,v20,v27,a0.dh,a0.dR,a0.oD,a0.jX⟩:ab))++[(211,.var 34 (kM [.z,.z,.z,.z,.z] (aO {dt with dW:=(⟨[]⟩:aK)})))]),217⟩ ?_ ?_
 ·refine iT Hj (fun q=>⟨[(1,tP 210),(2,tP 211),(3,tP 212),(7,tI q.1)],(oM [.t,.n 213,.n 214,.n 215,.n 216] 212 34 (aO (⟨r1,v6,v13,v20,q.2,a0.dh,a0.dR,a0.oD,a0.jX⟩:ab))++[(210,.var 34 (kM [.f,.f,.f,.f,.f] (aO a0))),(211,.var 34 (kM [.z,.z,.z,.z,.z] (aO {dt with dW:=(⟨[]⟩:aK)})))]),217⟩) ?_ (by refine aq (c8 (o:=212) (j:=4) 78 21 true) ?_;refine aq (wB 216 (([]:List bJ).length)) ?_;exact wo)
  rintro⟨v23,v24⟩ o H
  try dsimp only
  refine wI ?_
  refine cC H ?_ ?_<;>intro H
  ·refine zI (SO 12) ?_
   obtain⟨x28,hx28,H⟩:=ob H
   refine zA (xdT (enc:=er) hx28) ?_
   obtain⟨r29,q29,H⟩:=ob H
   refine zA (ca (hF:=(wC q29).frzs (by repeat (first|exact trivial|refine⟨?_,?_⟩|exact lm _|rfl)))) ?_
   obtain⟨h,H⟩:=rq H
   refine zB bT (gq rfl (yk (enc:=er) (ys:=v24) (zs:=[r29]) h (by first|exact Uo _ _|simp) rfl (fun _=>rfl) (by first|rfl|simp) (.w rfl (by first|rfl|exact lm _|simp)) rfl rfl rfl rfl rfl rfl rfl rfl rfl rfl)) bT ?_
   refine wA (spx 100305) ?_
   cases H
   refine ee ?_
   refine aq (du 216) ?_
   exact wo
  ·cases H
   refine ed (fun hq=>?_)
   cases hq
   refine wI ?_
   exact wo
 cases H
 refine bU (wS 213 210) ?_
 refine bU (wS 214 211) ?_
 refine bU (wS 215 212) ?_
 refine bU (wS 216 213) ?_
 exact bV
def d6 (a0:Int) (a1:List Int):Option Int:=
 bif cS 8 ([a0]++a1).length then(bif cS 8 (([a0]++a1)++[a0]).length then(Un (Jj (([a0]++a1)++[a0])) fun r1=>some r1) else none) else none
theorem dV {a0:Int} {a1:List Int} {r:Int} (H:d6 a0 a1=some r):Fn Tryz.prog 166 [aI a0,aL (a1.map eI)] [.c (.d (.i .i64 r))]:=by
 refine fI Tryz.func166 Tryz.ntmps166 ?_
 obtain⟨h,H⟩:=rq H
 refine eR rfl (apT (enc:=eI) (ys:=[a0]) (zs:=a1) h) ?_
 refine aW (jU (enc:=eI) (o:=0)) ?_
 obtain⟨h,H⟩:=rq H
 refine sA (apT (enc:=eI) (ys:=([a0]++a1)) (zs:=[a0]) h) ?_
 obtain⟨r1,q1,H⟩:=ob H
 refine nA (ca (hF:=Pp q1)) ?_
 cases H
 exact ah
end Go.AM
