/- A part. -/
import Derived.Test.YtljhooecmjejiaaGreatG
set_option linter.unusedVariables false
open Option renaming bind→Vj
namespace Go.AM
open Go.Proofs
attribute [local irreducible] AWN NS AWO AWR AWC DR cZ ey
set_option maxRecDepth 100000
set_option maxHeartbeats 40000000
def qE (a0:List Int):(Int×Int)→Option (cp (Int×Int) (Int))
 |(v1,v2)=>Vj (bif ltB v2 ((a0.length:Nat):Int) then(some (ltB v2 4000)) else(some false)) fun(v6:Bool)=>bif v6 then(Vj (ix a0 v2) fun x7=>some (.next (xN .i64 (WR ((WR ((WR (v1*137))+(WR (x7))))+11)) 1073741823,WR (v2+1)))) else(some (.done v1))
def Fb (a0:List Int):Option aE:=
 Vj (iter (qE a0) FU (WR (193017+((a0.length:Nat):Int)),0)) fun(v5:Int)=>some (⟨a0,0,v5⟩:aE)
theorem OF {a0:List Int} {r:aE} (H:Fb a0=some r):FnN Tryz.prog 41 [aL (a0.map eU8)] 143 (PP r):=by
 refine RL Tryz.func41 (hN:=Tryz.ntmps41) (h:=?_)
 refine wI ?_
 obtain⟨v5,Hj,H⟩:=ob H
 refine jB ⟨[(0,.v (.c (.d false (.l (a0.map eU8))))),(3,tI v5)],[],0⟩ ?_ ?_
 ·refine iT Hj (fun q=>⟨[(0,.v (.c (.d false (.l (a0.map eU8))))),(3,tI q.1),(4,tI q.2)],[],0⟩) ?_
  rintro⟨v1,v2⟩ o H
  try dsimp only
  refine wI ?_
  obtain⟨v6,Hj,H⟩:=ob H
  refine jR ⟨[(0,.v (.c (.d false (.l (a0.map eU8))))),(3,tI v1),(4,tI v2),(15,tB v6)],[],0⟩ ?_ ?_
  ·have H:=Hj
   refine gC H ?_ ?_<;>intro H
   ·cases H
    exact wo
   ·cases H
    exact wo
  refine cC H ?_ ?_<;>intro H
  ·obtain⟨x7,hx7,H⟩:=ob H
   refine nA (xdT (enc:=eU8) hx7) ?_
   cases H
   refine dU ?_
   exact wo
  ·cases H
   refine dT (fun hq=>?_)
   cases hq
   refine wI ?_
   exact wo
 cases H
 exact M6
def py (a0:aE):Option (Int×aE):=
 Vj (bif ltB a0.fi ((a0.fb.length:Nat):Int) then(Vj (ix a0.fb a0.fi) fun x3=>some (xN .i64 (WR ((xN .i64 (FG .i64 (B3 .i64 (WR ((WR (a0.fh*6364136223846793005))+1442695040888963407)) 33) (B3 .i64 (WR ((WR (a0.fh*6364136223846793005))+1442695040888963407)) 47)) 255)+(WR (x3)))) 255,WR (a0.fi+1))) else(some (xN .i64 (FG .i64 (B3 .i64 (WR ((WR (a0.fh*6364136223846793005))+1442695040888963407)) 33) (B3 .i64 (WR ((WR (a0.fh*6364136223846793005))+1442695040888963407)) 47)) 255,a0.fi))) fun((v1,v2):Int×Int)=>some (v1,(⟨a0.fb,v2,WR ((WR (a0.fh*6364136223846793005))+1442695040888963407)⟩:aE))
theorem qD {a0:aE} {r:Int×aE} (H:py a0=some r):FnW Tryz.prog 133 (.var 143 (kM [.f] (bg a0))) [tP 200] (.var 143 (kM [.f] (bg r.2))) [.c (.d (.i .i64 r.1))]:=by
 refine fW Tryz.func133 Tryz.ntmps133 ?_
 refine dI ?_
 refine dA (ishL (b:=33) rfl rfl rfl rfl) ?_
 refine dA (ishL (b:=47) rfl rfl rfl rfl) ?_
 refine wI ?_
 refine dI ?_
 refine wI ?_
 obtain⟨⟨v1,v2⟩,Hj,H⟩:=ob H
 refine jA ⟨[(3,tI v1)],[(200,.var 143 (kM [.f] (bg (⟨a0.fb,v2,WR ((WR (a0.fh*6364136223846793005))+1442695040888963407)⟩:aE))))],210⟩ ?_ ?_
 ·have H:=Hj
  refine cC H ?_ ?_<;>intro H
  ·refine dI ?_
   obtain⟨x3,hx3,H⟩:=ob H
   refine dA (xdT (enc:=eU8) hx3) ?_
   refine wI ?_
   cases H
   exact wo
  ·cases H
   exact wo
 cases H
 exact eu
def cH (a0:Int) (a1:Int) (a2:Int):Option Bool:=
 Vj (bif leB a1 a0 then(some (leB a0 a2)) else(some false)) fun(v1:Bool)=>some v1
theorem bL {a0:Int} {a1:Int} {a2:Int} {r:Bool} (H:cH a0 a1 a2=some r):Fn Tryz.prog 58 [aI a0,aI a1,aI a2] [.c (.d (.b r))]:=by
 refine fI Tryz.func58 Tryz.ntmps58 ?_
 obtain⟨v1,Hj,H⟩:=ob H
 refine jR ⟨[(6,tB v1)],[],0⟩ ?_ ?_
 ·have H:=Hj
  refine gC H ?_ ?_<;>intro H
  ·cases H
   exact wo
  ·cases H
   exact wo
 cases H
 exact ah
def vS (a0:List Int) (a1:Int):Int→Option (cp (Int) (Bool))
 |v1=>bif ltB v1 ((a0.length:Nat):Int) then(Vj (ix a0 v1) fun x2=>bif eqB x2 a1 then(dn (some true)) else(some (.next (WR (v1+1))))) else(dn (some false))
def xo (a0:List Int) (a1:Int):Option Bool:=
 iter (vS a0 a1) FU 0
theorem yx {a0:List Int} {a1:Int} {r:Bool} (H:xo a0 a1=some r):Fn Tryz.prog 185 [aL (a0.map eI),aI a1] [.c (.d (.b r))]:=by
 refine fI Tryz.func185 Tryz.ntmps185 ?_
 refine iT H (fun q=>⟨[(0,.v (.c (.d false (.l (a0.map eI))))),(1,tI a1),(5,tI q)],[],0⟩) ?_
 rintro v1 o H
 try dsimp only
 refine wI ?_
 refine cC H ?_ ?_<;>intro H
 ·obtain⟨x2,hx2,H⟩:=ob H
  refine nA (xdT (enc:=eI) hx2) ?_
  refine cC H ?_ ?_<;>intro H
  ·obtain⟨r0,Hd,rfl⟩:=dnE H
   refine ks (fun hq=>?_)
   have H:=Hd.trans (congrArg some hq)
   refine wI ?_
   cases H
   exact ah
  ·cases H
   refine dU ?_
   exact wo
 ·obtain⟨r0,Hd,rfl⟩:=dnE H
  refine dT (fun hq=>?_)
  have H:=Hd.trans (congrArg some hq)
  refine wI ?_
  cases H
  exact ah
def gO (a0:aM):(Int×List fx)→Option (cp (Int×List fx) (List fx))
 |(v1,v2)=>bif ltB v1 ((a0.aZ.length:Nat):Int) then(Vj (ix a0.aZ v1) fun x6=>Vj (ix a0.aZ v1) fun x7=>bif cM 8 (([]:List Int)++x7.cW).length then(bif cM 32 (v2++[(⟨x6.f5,(([]:List Int)++x7.cW)⟩:fx)]).length then(some (.next (WR (v1+1),(v2++[(⟨x6.f5,(([]:List Int)++x7.cW)⟩:fx)])))) else none) else none) else(some (.done v2))
def mA (a0:aM):Option aM:=
 Vj (iter (gO a0) FU (0,([]:List fx))) fun(v5:List fx)=>some (⟨v5⟩:aM)
theorem IP {a0:aM} {r:aM} (H:mA a0=some r):FnV Tryz.prog 192 [] [.v (.agg [.d false (.l (a0.aZ.map dW))])] [] (.v (.agg [.wn 210 r.aZ.length])) [(210,Lj r.aZ)]:=by
 refine fV Tryz.func192 Tryz.ntmps192 ?_
 obtain⟨v5,Hj,H⟩:=ob H
 refine jB ⟨[(2,tP 211),(3,tP 212)],[(211,.var 26 [.nil]),(212,.var 26 [.wn 213 v5.length]),(213,Lj v5)],214⟩ ?_ ?_
 ·refine iT Hj (fun q=>⟨[(1,tP 210),(2,tP 211),(3,tP 212),(4,tI q.1)],[(210,.var 26 [.d false (.l (a0.aZ.map dW))]),(211,.var 26 [.nil]),(212,.var 26 [.wn 213 q.2.length]),(213,Lj q.2)],214⟩) ?_ (by refine an (c7 (o:=212) (j:=0) 157 2 true) ?_;refine an (wB 213 (([]:List fx).length)) ?_;exact wo)
  rintro⟨v1,v2⟩ o H
  try dsimp only
  refine wI ?_
  refine cC H ?_ ?_<;>intro H
  ·refine zI (List.range 21) ?_
   obtain⟨x6,hx6,H⟩:=ob H
   refine zA (xdT (enc:=dW) hx6) ?_
   obtain⟨x7,hx7,H⟩:=ob H
   refine zA (xdT (enc:=dW) hx7) ?_
   obtain⟨h,H⟩:=rq H
   refine wA (CF (enc:=eI) (ys:=([]:List Int)) (zs:=x7.cW) [214] h) ?_
   obtain⟨h,H⟩:=rq H
   refine qT (ds:=[214]) (by kernel_rfl) (by kernel_rfl) rfl (by kernel_rfl) bO (f8 rfl (xL (enc:=dW) (ys:=v2) (zs:=[(⟨x6.f5,(([]:List Int)++x7.cW)⟩:fx)]) h (by first|exact List.cons_ne_nil _ _|simp) rfl (fun _=>rfl) (by first|rfl|simp) (.w rfl (by first|rfl|exact lm _|simp)) rfl rfl rfl rfl rfl rfl rfl rfl rfl rfl)) bO rfl ?_
   refine wI ?_
   refine wA (spx 100015) ?_
   cases H
   refine dU ?_
   refine an (c8 213) ?_
   exact wo
  ·cases H
   refine dT (fun hq=>?_)
   cases hq
   refine wI ?_
   exact wo
 cases H
 refine bV (wS 213 210) ?_
 exact bU
theorem IQ {a0:aM} {r:aM} (H:mA a0=some r):Fn Tryz.prog 192 [.agg (lx a0)] [.agg [.d (.l (r.aZ.map dW))]]:=by
 refine fI Tryz.func192 Tryz.ntmps192 ?_
 obtain⟨v5,Hj,H⟩:=ob H
 refine jB ⟨[(2,tP 1),(3,tP 2)],[(1,.var 26 [.nil]),(2,.var 26 [.wn 3 v5.length]),(3,Lj v5)],4⟩ ?_ ?_
 ·refine iT Hj (fun q=>⟨[(1,tP 0),(2,tP 1),(3,tP 2),(4,tI q.1)],[(0,.var 26 [.d false (.l (a0.aZ.map dW))]),(1,.var 26 [.nil]),(2,.var 26 [.wn 3 q.2.length]),(3,Lj q.2)],4⟩) ?_ (by refine an (c7 (o:=2) (j:=0) 157 2 true) ?_;refine an (wB 3 (([]:List fx).length)) ?_;exact wo)
  rintro⟨v1,v2⟩ o H
  try dsimp only
  refine wI ?_
  refine cC H ?_ ?_<;>intro H
  ·refine zI (List.range 21) ?_
   obtain⟨x6,hx6,H⟩:=ob H
   refine zA (xdT (enc:=dW) hx6) ?_
   obtain⟨x7,hx7,H⟩:=ob H
   refine zA (xdT (enc:=dW) hx7) ?_
   obtain⟨h,H⟩:=rq H
   refine wA (CF (enc:=eI) (ys:=([]:List Int)) (zs:=x7.cW) [4] h) ?_
   obtain⟨h,H⟩:=rq H
   refine qT (ds:=[4]) (by kernel_rfl) (by kernel_rfl) rfl (by kernel_rfl) bO (f8 rfl (xL (enc:=dW) (ys:=v2) (zs:=[(⟨x6.f5,(([]:List Int)++x7.cW)⟩:fx)]) h (by first|exact List.cons_ne_nil _ _|simp) rfl (fun _=>rfl) (by first|rfl|simp) (.w rfl (by first|rfl|exact lm _|simp)) rfl rfl rfl rfl rfl rfl rfl rfl rfl rfl)) bO rfl ?_
   refine wI ?_
   refine wA (spx 100025) ?_
   cases H
   refine dU ?_
   refine an (c8 3) ?_
   exact wo
  ·cases H
   refine dT (fun hq=>?_)
   cases hq
   refine wI ?_
   exact wo
 cases H
 refine cG (eo 3) ?_
 exact ah
def ry (a0:mV) (a1:Int):Option az:=
 some {B0 with dw:=a0,aX:=a1,bM:={dv with bm:=1}}
theorem ER {a0:mV} {a1:Int} {r:az} (H:ry a0 a1=some r):Fn Tryz.prog 193 [.agg (H9 a0),aI a1] [.agg (qM [.z,.z] (dr r))]:=by
 refine fI Tryz.func193 Tryz.ntmps193 ?_
 cases H
 exact ah
def qI (a0:bB):Option bB:=
 bif cM 8 (([]:List Int)++a0.bJ).length then(some {a0 with bJ:=(([]:List Int)++a0.bJ)}) else none
theorem BD {a0:bB} {r:bB} (H:qI a0=some r):Fn Tryz.prog 251 [.agg (og a0)] [.agg (qM [.o] (dM r))]:=by
 refine fI Tryz.func251 Tryz.ntmps251 ?_
 obtain⟨h,H⟩:=rq H
 refine eS rfl (apT (enc:=eI) (ys:=([]:List Int)) (zs:=a0.bJ) h) ?_
 refine aW (ji (enc:=eI) (o:=3)) ?_
 cases H
 exact ah
end Go.AM
