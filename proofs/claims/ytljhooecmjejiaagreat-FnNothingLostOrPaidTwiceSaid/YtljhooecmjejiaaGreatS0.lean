/- A part. -/
import Derived.Test.YtljhooecmjejiaaGreatG
set_option linter.unusedVariables false
open Option renaming bind→Un
namespace Go.AM
open Go.Proofs
attribute [local irreducible] AWN NS AWO AWR AWC DR cZ eE
set_option maxRecDepth 100000
set_option maxHeartbeats 40000000
def qh (a0:List Int):(Int×Int)→Option (cB (Int×Int) (Int))
 |(v1,v2)=>Un (bif ltB v2 ((a0.length:Nat):Int) then(some (ltB v2 4000)) else(some false)) fun(v6:Bool)=>bif v6 then(Un (ix a0 v2) fun x7=>some (.next (wU .i64 (WR ((WR ((WR (v1*137))+(WR (x7))))+11)) 1073741823,WR (v2+1)))) else(some (.done v1))
def DT (a0:List Int):Option aH:=
 Un (iter (qh a0) FU (WR (193017+((a0.length:Nat):Int)),0)) fun(v5:Int)=>some (⟨a0,0,v5⟩:aH)
theorem Nq {a0:List Int} {r:aH} (H:DT a0=some r):FnN Tryz.prog 41 [aL (a0.map eU8)] 143 (OE r):=by
 refine QA Tryz.func41 (hN:=Tryz.ntmps41) (h:=?_)
 refine wI ?_
 obtain⟨v5,Hj,H⟩:=ob H
 refine jB ⟨[(0,.v (.c (.d false (.l (a0.map eU8))))),(3,tI v5)],[],0⟩ ?_ ?_
 ·refine iT Hj (fun q=>⟨[(0,.v (.c (.d false (.l (a0.map eU8))))),(3,tI q.1),(4,tI q.2)],[],0⟩) ?_
  rintro⟨v1,v2⟩ o H
  try dsimp only
  refine wI ?_
  obtain⟨v6,Hj,H⟩:=ob H
  refine jR ⟨[(0,.v (.c (.d false (.l (a0.map eU8))))),(3,tI v1),(4,tI v2),(15,tB v6)],[],0⟩ ?_ ?_
  ·have H:=Hj
   refine gC H ?_ ?_<;>intro H
   ·cases H
    exact wo
   ·cases H
    exact wo
  refine cC H ?_ ?_<;>intro H
  ·obtain⟨x7,hx7,H⟩:=ob H
   refine nA (xdT (enc:=eU8) hx7) ?_
   cases H
   refine ee ?_
   exact wo
  ·cases H
   refine ed (fun hq=>?_)
   cases hq
   refine wI ?_
   exact wo
 cases H
 exact LX
def o6 (a0:aH):Option (Int×aH):=
 Un (bif ltB a0.fi ((a0.fb.length:Nat):Int) then(Un (ix a0.fb a0.fi) fun x3=>some (wU .i64 (WR ((wU .i64 (Er .i64 (A5 .i64 (WR ((WR (a0.fh*6364136223846793005))+1442695040888963407)) 33) (A5 .i64 (WR ((WR (a0.fh*6364136223846793005))+1442695040888963407)) 47)) 255)+(WR (x3)))) 255,WR (a0.fi+1))) else(some (wU .i64 (Er .i64 (A5 .i64 (WR ((WR (a0.fh*6364136223846793005))+1442695040888963407)) 33) (A5 .i64 (WR ((WR (a0.fh*6364136223846793005))+1442695040888963407)) 47)) 255,a0.fi))) fun((v1,v2):Int×Int)=>some (v1,(⟨a0.fb,v2,WR ((WR (a0.fh*6364136223846793005))+1442695040888963407)⟩:aH))
theorem qg {a0:aH} {r:Int×aH} (H:o6 a0=some r):FnW Tryz.prog 133 (.var 143 (kM [.f] (bI a0))) [tP 200] (.var 143 (kM [.f] (bI r.2))) [.c (.d (.i .i64 r.1))]:=by
 refine fW Tryz.func133 Tryz.ntmps133 ?_
 refine dI ?_
 refine dA (ishL (b:=33) rfl rfl rfl rfl) ?_
 refine dA (ishL (b:=47) rfl rfl rfl rfl) ?_
 refine wI ?_
 refine dI ?_
 refine wI ?_
 obtain⟨⟨v1,v2⟩,Hj,H⟩:=ob H
 refine jA ⟨[(3,tI v1)],[(200,.var 143 (kM [.f] (bI (⟨a0.fb,v2,WR ((WR (a0.fh*6364136223846793005))+1442695040888963407)⟩:aH))))],210⟩ ?_ ?_
 ·have H:=Hj
  refine cC H ?_ ?_<;>intro H
  ·refine dI ?_
   obtain⟨x3,hx3,H⟩:=ob H
   refine dA (xdT (enc:=eU8) hx3) ?_
   refine wI ?_
   cases H
   exact wo
  ·cases H
   exact wo
 cases H
 exact eB
def cz (a0:Int) (a1:Int) (a2:Int):Option Bool:=
 Un (bif leB a1 a0 then(some (leB a0 a2)) else(some false)) fun(v1:Bool)=>some v1
theorem bK {a0:Int} {a1:Int} {a2:Int} {r:Bool} (H:cz a0 a1 a2=some r):Fn Tryz.prog 58 [aI a0,aI a1,aI a2] [.c (.d (.b r))]:=by
 refine fI Tryz.func58 Tryz.ntmps58 ?_
 obtain⟨v1,Hj,H⟩:=ob H
 refine jR ⟨[(6,tB v1)],[],0⟩ ?_ ?_
 ·have H:=Hj
  refine gC H ?_ ?_<;>intro H
  ·cases H
   exact wo
  ·cases H
   exact wo
 cases H
 exact ah
def uZ (a0:List Int) (a1:Int):Int→Option (cB (Int) (Bool))
 |v1=>bif ltB v1 ((a0.length:Nat):Int) then(Un (ix a0 v1) fun x2=>bif eqB x2 a1 then(dn (some true)) else(some (.next (WR (v1+1))))) else(dn (some false))
def wq (a0:List Int) (a1:Int):Option Bool:=
 iter (uZ a0 a1) FU 0
theorem xB {a0:List Int} {a1:Int} {r:Bool} (H:wq a0 a1=some r):Fn Tryz.prog 185 [aL (a0.map eI),aI a1] [.c (.d (.b r))]:=by
 refine fI Tryz.func185 Tryz.ntmps185 ?_
 refine iT H (fun q=>⟨[(0,.v (.c (.d false (.l (a0.map eI))))),(1,tI a1),(5,tI q)],[],0⟩) ?_
 rintro v1 o H
 try dsimp only
 refine wI ?_
 refine cC H ?_ ?_<;>intro H
 ·obtain⟨x2,hx2,H⟩:=ob H
  refine nA (xdT (enc:=eI) hx2) ?_
  refine cC H ?_ ?_<;>intro H
  ·obtain⟨r0,Hd,rfl⟩:=dnE H
   refine lT (fun hq=>?_)
   have H:=Hd.trans (congrArg some hq)
   refine wI ?_
   cases H
   exact ah
  ·cases H
   refine ee ?_
   exact wo
 ·obtain⟨r0,Hd,rfl⟩:=dnE H
  refine ed (fun hq=>?_)
  have H:=Hd.trans (congrArg some hq)
  refine wI ?_
  cases H
  exact ah
def gP (a0:aK):(Int×List fc)→Option (cB (Int×List fc) (List fc))
 |(v1,v2)=>bif ltB v1 ((a0.aX.length:Nat):Int) then(Un (ix a0.aX v1) fun x6=>Un (ix a0.aX v1) fun x7=>bif cS 8 (([]:List Int)++x7.cT).length then(bif cS 32 (v2++[(⟨x6.fT,(([]:List Int)++x7.cT)⟩:fc)]).length then(some (.next (WR (v1+1),(v2++[(⟨x6.fT,(([]:List Int)++x7.cT)⟩:fc)])))) else none) else none) else(some (.done v2))
def mf (a0:aK):Option aK:=
 Un (iter (gP a0) FU (0,([]:List fc))) fun(v5:List fc)=>some (⟨v5⟩:aK)
theorem HC {a0:aK} {r:aK} (H:mf a0=some r):FnV Tryz.prog 192 [] [.v (.agg [.d false (.l (a0.aX.map dP))])] [] (.v (.agg [.wn 210 r.aX.length])) [(210,J6 r.aX)]:=by
 refine fV Tryz.func192 Tryz.ntmps192 ?_
 obtain⟨v5,Hj,H⟩:=ob H
 refine jB ⟨[(2,tP 211),(3,tP 212)],[(211,.var 26 [.nil]),(212,.var 26 [.wn 213 v5.length]),(213,J6 v5)],214⟩ ?_ ?_
 ·refine iT Hj (fun q=>⟨[(1,tP 210),(2,tP 211),(3,tP 212),(4,tI q.1)],[(210,.var 26 [.d false (.l (a0.aX.map dP))]),(211,.var 26 [.nil]),(212,.var 26 [.wn 213 q.2.length]),(213,J6 q.2)],214⟩) ?_ (by refine aq (c8 (o:=212) (j:=0) 157 2 true) ?_;refine aq (wB 213 (([]:List fc).length)) ?_;exact wo)
  rintro⟨v1,v2⟩ o H
  try dsimp only
  refine wI ?_
  refine cC H ?_ ?_<;>intro H
  ·refine zI (List.range 21) ?_
   obtain⟨x6,hx6,H⟩:=ob H
   refine zA (xdT (enc:=dP) hx6) ?_
   obtain⟨x7,hx7,H⟩:=ob H
   refine zA (xdT (enc:=dP) hx7) ?_
   obtain⟨h,H⟩:=rq H
   refine wA (BA (enc:=eI) (ys:=([]:List Int)) (zs:=x7.cT) [214] h) ?_
   obtain⟨h,H⟩:=rq H
   refine qz (ds:=[214]) (by kernel_rfl) (by kernel_rfl) rfl (by kernel_rfl) bT (gq rfl (yk (enc:=dP) (ys:=v2) (zs:=[(⟨x6.fT,(([]:List Int)++x7.cT)⟩:fc)]) h (by first|exact List.cons_ne_nil _ _|simp) rfl (fun _=>rfl) (by first|rfl|simp) (.w rfl (by first|rfl|exact lm _|simp)) rfl rfl rfl rfl rfl rfl rfl rfl rfl rfl)) bT rfl ?_
   refine wI ?_
   refine wA (spx 100015) ?_
   cases H
   refine ee ?_
   refine aq (du 213) ?_
   exact wo
  ·cases H
   refine ed (fun hq=>?_)
   cases hq
   refine wI ?_
   exact wo
 cases H
 refine bU (wS 213 210) ?_
 exact bV
theorem HD {a0:aK} {r:aK} (H:mf a0=some r):Fn Tryz.prog 192 [.agg (lf a0)] [.agg [.d (.l (r.aX.map dP))]]:=by
 refine fI Tryz.func192 Tryz.ntmps192 ?_
 obtain⟨v5,Hj,H⟩:=ob H
 refine jB ⟨[(2,tP 1),(3,tP 2)],[(1,.var 26 [.nil]),(2,.var 26 [.wn 3 v5.length]),(3,J6 v5)],4⟩ ?_ ?_
 ·refine iT Hj (fun q=>⟨[(1,tP 0),(2,tP 1),(3,tP 2),(4,tI q.1)],[(0,.var 26 [.d false (.l (a0.aX.map dP))]),(1,.var 26 [.nil]),(2,.var 26 [.wn 3 q.2.length]),(3,J6 q.2)],4⟩) ?_ (by refine aq (c8 (o:=2) (j:=0) 157 2 true) ?_;refine aq (wB 3 (([]:List fc).length)) ?_;exact wo)
  rintro⟨v1,v2⟩ o H
  try dsimp only
  refine wI ?_
  refine cC H ?_ ?_<;>intro H
  ·refine zI (List.range 21) ?_
   obtain⟨x6,hx6,H⟩:=ob H
   refine zA (xdT (enc:=dP) hx6) ?_
   obtain⟨x7,hx7,H⟩:=ob H
   refine zA (xdT (enc:=dP) hx7) ?_
   obtain⟨h,H⟩:=rq H
   refine wA (BA (enc:=eI) (ys:=([]:List Int)) (zs:=x7.cT) [4] h) ?_
   obtain⟨h,H⟩:=rq H
   refine qz (ds:=[4]) (by kernel_rfl) (by kernel_rfl) rfl (by kernel_rfl) bT (gq rfl (yk (enc:=dP) (ys:=v2) (zs:=[(⟨x6.fT,(([]:List Int)++x7.cT)⟩:fc)]) h (by first|exact List.cons_ne_nil _ _|simp) rfl (fun _=>rfl) (by first|rfl|simp) (.w rfl (by first|rfl|exact lm _|simp)) rfl rfl rfl rfl rfl rfl rfl rfl rfl rfl)) bT rfl ?_
   refine wI ?_
   refine wA (spx 100025) ?_
   cases H
   refine ee ?_
   refine aq (du 3) ?_
   exact wo
  ·cases H
   refine ed (fun hq=>?_)
   cases hq
   refine wI ?_
   exact wo
 cases H
 refine cG (ev 3) ?_
 exact ah
def qK (a0:mL) (a1:Int):Option ay:=
 some {A2 with dq:=a0,aU:=a1,bi:={dm with bj:=1}}
theorem DE {a0:mL} {a1:Int} {r:ay} (H:qK a0 a1=some r):Fn Tryz.prog 193 [.agg (GS a0),aI a1] [.agg (qM [.z,.z] (df r))]:=by
 refine fI Tryz.func193 Tryz.ntmps193 ?_
 cases H
 exact ah
def ql (a0:bA):Option bA:=
 bif cS 8 (([]:List Int)++a0.bF).length then(some {a0 with bF:=(([]:List Int)++a0.bF)}) else none
theorem AF {a0:bA} {r:bA} (H:ql a0=some r):Fn Tryz.prog 251 [.agg (nN a0)] [.agg (qM [.o] (dE r))]:=by
 refine fI Tryz.func251 Tryz.ntmps251 ?_
 obtain⟨h,H⟩:=rq H
 refine eR rfl (apT (enc:=eI) (ys:=([]:List Int)) (zs:=a0.bF) h) ?_
 refine aW (jU (enc:=eI) (o:=3)) ?_
 cases H
 exact ah
end Go.AM
