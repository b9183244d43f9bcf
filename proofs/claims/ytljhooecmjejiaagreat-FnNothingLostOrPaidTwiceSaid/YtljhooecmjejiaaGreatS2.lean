/- A part. -/
import Derived.Test.YtljhooecmjejiaaGreatG
set_option linter.unusedVariables false
open Option renaming bind→Un
namespace Go.AM
open Go.Proofs
attribute [local irreducible] AWN NS AWO AWR AWC DR cZ eE
set_option maxRecDepth 100000
set_option maxHeartbeats 40000000
def gX (a0:List Int):(Int×List Int)→Option (cB (Int×List Int) (List Int))
 |(v1,v2)=>bif ltB v1 ((a0.length:Nat):Int) then(Un (ix a0 v1) fun x5=>bif cS 8 (v2++[WR (x5)]).length then(some (.next (WR (v1+1),(v2++[WR (x5)])))) else none) else(some (.done v2))
def mY (a0:List Int):Option (List Int):=
 Un (iter (gX a0) FU (0,[((a0.length:Nat):Int)])) fun(v4:List Int)=>some v4
theorem Ac {a0:List Int} {r:List Int} (H:mY a0=some r):Fn Tryz.prog 222 [aL (a0.map eU8)] [.c (.own 3 1 (r.map eI) r.length)]:=by
 refine fI Tryz.func222 Tryz.ntmps222 ?_
 obtain⟨v4,Hj,H⟩:=ob H
 refine jB ⟨[(3,.v (.c (.w 0 v4.length)))],[(0,w3 v4)],1⟩ ?_ ?_
 ·refine iT Hj (fun q=>⟨[(0,.v (.c (.d false (.l (a0.map eU8))))),(3,.v (.c (.w 0 q.2.length))),(4,tI q.1)],[(0,w3 q.2)],1⟩) ?_
  rintro⟨v1,v2⟩ o H
  try dsimp only
  refine wI ?_
  refine cC H ?_ ?_<;>intro H
  ·obtain⟨x5,hx5,H⟩:=ob H
   refine nA (xdT (enc:=eU8) hx5) ?_
   obtain⟨h,H⟩:=rq H
   refine sA (apT (enc:=eI) (ys:=v2) (zs:=[WR (x5)]) h) ?_
   cases H
   refine ee ?_
   exact wo
  ·cases H
   refine ed (fun hq=>?_)
   cases hq
   refine wI ?_
   exact wo
 cases H
 exact ah
def kL:Option gW:=
 some (⟨[1,2]⟩:gW)
theorem ud {r:gW} (H:kL=some r):Fn Tryz.prog 215 [] [.agg [.own 3 1 (r.Steps.map eI) r.Steps.length]]:=by
 refine fI Tryz.func215 Tryz.ntmps215 ?_
 cases H
 refine cG (wB 1 ([1,2].length)) ?_
 exact ah
def lY (a0:List Int) (a1:List Int):Option Bool:=
 some (strB (rH a0) (rH a1))
theorem ut {a0:List Int} {a1:List Int} {r:Bool} (H:lY a0 a1=some r):Fn Tryz.prog 242 [aL (a0.map eU8),aL (a1.map eU8)] [.c (.d (.b r))]:=by
 refine fI Tryz.func242 Tryz.ntmps242 ?_
 cases H
 exact ah
def qS (a0:List ae):(Int×Int)→Option (cB (Int×Int) (Int))
 |(v1,v2)=>bif ltB v2 ((a0.length:Nat):Int) then(Un (ix a0 v2) fun x5=>some (.next (WR (v1+((x5.aN.length:Nat):Int)),WR (v2+1)))) else(some (.done v1))
def lB (a0:List ae):Option Int:=
 Un (iter (qS a0) FU (0,0)) fun(v4:Int)=>some v4
theorem o8 {a0:List ae} {r:Int} (H:lB a0=some r):Fn Tryz.prog 296 [aL (a0.map aE)] [.c (.d (.i .i64 r))]:=by
 refine fI Tryz.func296 Tryz.ntmps296 ?_
 obtain⟨v4,Hj,H⟩:=ob H
 refine jB ⟨[(3,tI v4)],[],0⟩ ?_ ?_
 ·refine iT Hj (fun q=>⟨[(0,.v (.c (.d false (.l (a0.map aE))))),(3,tI q.1),(4,tI q.2)],[],0⟩) ?_
  rintro⟨v1,v2⟩ o H
  try dsimp only
  refine wI ?_
  refine cC H ?_ ?_<;>intro H
  ·obtain⟨x5,hx5,H⟩:=ob H
   refine nA (xdT (enc:=aE) hx5) ?_
   cases H
   refine ee ?_
   exact wo
  ·cases H
   refine ed (fun hq=>?_)
   cases hq
   refine wI ?_
   exact wo
 cases H
 exact ah
def kO (a0:aj):(Int×Int)→Option (cB (Int×Int) (Int))
 |(v1,v2)=>bif ltB v2 ((a0.aA.length:Nat):Int) then(Un (ix a0.aA v2) fun x5=>some (.next (WR (v1+x5.ea),WR (v2+1)))) else(some (.done v1))
def kN (a0:aj):Option Int:=
 Un (iter (kO a0) FU (0,0)) fun(v4:Int)=>some v4
theorem xv {a0:aj} {r:Int} (H:kN a0=some r):Fn Tryz.prog 249 [.agg (da a0)] [.c (.d (.i .i64 r))]:=by
 refine fI Tryz.func249 Tryz.ntmps249 ?_
 obtain⟨v4,Hj,H⟩:=ob H
 refine jB ⟨[(3,tI v4)],[],0⟩ ?_ ?_
 ·refine iT Hj (fun q=>⟨[(1,tP 0),(3,tI q.1),(4,tI q.2)],[(0,.var 66 (kM [.f] (cM a0)))],1⟩) ?_
  rintro⟨v1,v2⟩ o H
  try dsimp only
  refine wI ?_
  refine cC H ?_ ?_<;>intro H
  ·obtain⟨x5,hx5,H⟩:=ob H
   refine nA (xdT (enc:=bm) hx5) ?_
   cases H
   refine ee ?_
   exact wo
  ·cases H
   refine ed (fun hq=>?_)
   cases hq
   refine wI ?_
   exact wo
 cases H
 exact ah
def o5 (a0:aj) (a1:Int):Int→Option (cB (Int) (Int))
 |v1=>bif ltB v1 ((a0.aA.length:Nat):Int) then(Un (ix a0.aA v1) fun x2=>bif eqB x2.au a1 then(dn (some v1)) else(some (.next (WR (v1+1))))) else(dn (some (-1)))
def mg (a0:aj) (a1:Int):Option Int:=
 iter (o5 a0 a1) FU 0
theorem u5 {a0:aj} {a1:Int} {r:Int} (H:mg a0 a1=some r):Fn Tryz.prog 297 [.agg (da a0),aI a1] [.c (.d (.i .i64 r))]:=by
 refine fI Tryz.func297 Tryz.ntmps297 ?_
 refine iT H (fun q=>⟨[(1,tI a1),(2,tP 0),(5,tI q)],[(0,.var 66 (kM [.f] (cM a0)))],1⟩) ?_
 rintro v1 o H
 try dsimp only
 refine wI ?_
 refine cC H ?_ ?_<;>intro H
 ·obtain⟨x2,hx2,H⟩:=ob H
  refine nA (xdT (enc:=bm) hx2) ?_
  refine cC H ?_ ?_<;>intro H
  ·obtain⟨r0,Hd,rfl⟩:=dnE H
   refine lT (fun hq=>?_)
   have H:=Hd.trans (congrArg some hq)
   refine wI ?_
   cases H
   exact ah
  ·cases H
   refine ee ?_
   exact wo
 ·obtain⟨r0,Hd,rfl⟩:=dnE H
  refine ed (fun hq=>?_)
  have H:=Hd.trans (congrArg some hq)
  refine wI ?_
  cases H
  exact ah
def yN (a0:List ax) (a1:Int) (a2:Int):Option (List ax):=
 bif cS 16 (([]:List ax)++a0).length then(Un (ix a0 a1) fun x1=>bif ltB a2 x1.ea then(Un (ix a0 a1) fun x2=>Un (ix (([]:List ax)++a0) a1) fun x3=>some ((([]:List ax)++a0).set (a1).toNat (⟨x3.au,WR (x2.ea-a2)⟩:ax))) else(bif fw (([]:List ax)++a0) 0 a1 then(bif fw a0 (WR (a1+1)) a0.length then(bif cS 16 ((([]:List ax)++a0).take (a1).toNat++(a0.drop (WR (a1+1)).toNat)).length then(some ((([]:List ax)++a0).take (a1).toNat++(a0.drop (WR (a1+1)).toNat))) else none) else none) else none)) else none
theorem KJ {a0:List ax} {a1:Int} {a2:Int} {r:List ax} (H:yN a0 a1 a2=some r):Fn Tryz.prog 366 [aL (a0.map bm),aI a1,aI a2] [.c (.own 161 2 (r.map bm) r.length)]:=by
 refine fI Tryz.func366 Tryz.ntmps366 ?_
 obtain⟨h,H⟩:=rq H
 refine eR rfl (apT (enc:=bm) (ys:=([]:List ax)) (zs:=a0) h) ?_
 refine aW (jU (enc:=bm) (o:=0)) ?_
 obtain⟨x1,hx1,H⟩:=ob H
 refine nA (xdT (enc:=bm) hx1) ?_
 refine cC H ?_ ?_<;>intro H
 ·obtain⟨x2,hx2,H⟩:=ob H
  refine nA (xdT (enc:=bm) hx2) ?_
  obtain⟨x3,hx3,H⟩:=ob H
  refine nA (xwT hx3) ?_
  refine sA (soT (enc:=bm) (a':=(⟨x3.au,WR (x2.ea-a2)⟩:ax)) hx3) ?_
  cases H
  exact ah
 ·refine zI (List.range 9) ?_
  obtain⟨hs2,H⟩:=rq H
  refine zA (cwfT (enc:=bm) hs2 (by first|rfl|simp) rfl rfl rfl rfl) ?_
  obtain⟨h,H⟩:=rq H
  refine zA (Qp (enc:=bm) h (fun _=>rfl) rfl rfl rfl) ?_
  obtain⟨h,H⟩:=rq H
  refine wA (apxPF (enc:=bm) (h:=a1) (ys:=(([]:List ax)++a0)) (zs:=a0.drop (WR (a1+1)).toNat) [0] hs2 h rfl (fun _=>rfl) (fun _=>rfl) rfl .d rfl rfl rfl rfl rfl rfl) ?_
  refine jt (ds:=[0]) (by kernel_rfl) (by kernel_rfl) rfl ?_
  refine wI ?_
  cases H
  exact ah
def gY (a0:aK) (a1:Int):(Int×List Int)→Option (cB (Int×List Int) (List Int))
 |(v1,v2)=>bif ltB v1 ((a0.aX.length:Nat):Int) then(Un (ix a0.aX v1) fun x6=>Un (bif eqB x6.fT a1 then(bif cS 8 (v2++[v1]).length then(some (v2++[v1])) else none) else(some v2)) fun(v7:List Int)=>some (.next (WR (v1+1),v7))) else(some (.done v2))
def mZ (a0:aK) (a1:Int):Option (List Int):=
 Un (iter (gY a0 a1) FU (0,([]:List Int))) fun(v5:List Int)=>some v5
theorem Ad {a0:aK} {a1:Int} {r:List Int} (H:mZ a0 a1=some r):Fn Tryz.prog 379 [.agg (lf a0),aI a1] [.c (.own 3 1 (r.map eI) r.length)]:=by
 refine fI Tryz.func379 Tryz.ntmps379 ?_
 obtain⟨v5,Hj,H⟩:=ob H
 refine jB ⟨[(5,.v (.c (.w 1 v5.length)))],[(1,w3 v5)],2⟩ ?_ ?_
 ·refine iT Hj (fun q=>⟨[(1,tI a1),(2,tP 0),(5,.v (.c (.w 1 q.2.length))),(6,tI q.1)],[(0,.var 26 [.d false (.l (a0.aX.map dP))]),(1,w3 q.2)],2⟩) ?_
  rintro⟨v1,v2⟩ o H
  try dsimp only
  refine wI ?_
  refine cC H ?_ ?_<;>intro H
  ·obtain⟨x6,hx6,H⟩:=ob H
   refine nA (xdT (enc:=dP) hx6) ?_
   obtain⟨v7,Hj,H⟩:=ob H
   refine jA ⟨[(1,tI a1),(2,tP 0),(5,.v (.c (.w 1 v7.length))),(6,tI v1)],[(0,.var 26 [.d false (.l (a0.aX.map dP))]),(1,w3 v7)],2⟩ ?_ ?_
   ·have H:=Hj
    refine cC H ?_ ?_<;>intro H
    ·obtain⟨h,H⟩:=rq H
     refine sA (apT (enc:=eI) (ys:=v2) (zs:=[v1]) h) ?_
     cases H
     exact wo
    ·cases H
     exact wo
   cases H
   refine ee ?_
   exact wo
  ·cases H
   refine ed (fun hq=>?_)
   cases hq
   refine wI ?_
   exact wo
 cases H
 exact ah
def qQ (a0:List ax) (a1:Int):Int→Option (cB (Int) (Int))
 |v1=>Un (bif ltB v1 ((a0.length:Nat):Int) then(Un (ix a0 v1) fun x6=>some (ltB x6.au a1)) else(some false)) fun(v5:Bool)=>bif v5 then(some (.next (WR (v1+1)))) else(some (.done v1))
def yM (a0:List ax) (a1:Int) (a2:Int):Option (List ax):=
 Un (iter (qQ a0 a1) FU 0) fun(v4:Int)=>Un (bif ltB v4 ((a0.length:Nat):Int) then(Un (ix a0 v4) fun x8=>some (eqB x8.au a1)) else(some false)) fun(v7:Bool)=>bif v7 then(bif cS 16 (([]:List ax)++a0).length then(Un (ix (([]:List ax)++a0) v4) fun x9=>Un (ix (([]:List ax)++a0) v4) fun x10=>some ((([]:List ax)++a0).set (v4).toNat (⟨x10.au,WR (x9.ea+a2)⟩:ax))) else none) else(bif fw a0 0 v4 then(bif fw a0 v4 a0.length then(bif cS 16 (([]:List ax)++(a0.take (v4).toNat)).length then(bif cS 16 ((([]:List ax)++(a0.take (v4).toNat))++[(⟨a1,a2⟩:ax)]).length then(bif cS 16 (((([]:List ax)++(a0.take (v4).toNat))++[(⟨a1,a2⟩:ax)])++(a0.drop (v4).toNat)).length then(some (((([]:List ax)++(a0.take (v4).toNat))++[(⟨a1,a2⟩:ax)])++(a0.drop (v4).toNat))) else none) else none) else none) else none) else none)
theorem KI {a0:List ax} {a1:Int} {a2:Int} {r:List ax} (H:yM a0 a1 a2=some r):Fn Tryz.prog 383 [aL (a0.map bm),aI a1,aI a2] [.c (.own 161 2 (r.map bm) r.length)]:=by
 refine fI Tryz.func383 Tryz.ntmps383 ?_
 obtain⟨v4,Hj,H⟩:=ob H
 refine jB ⟨[(0,.v (.c (.d false (.l (a0.map bm))))),(1,tI a1),(2,tI a2),(7,tI v4)],[],0⟩ ?_ ?_
 ·refine iT Hj (fun q=>⟨[(0,.v (.c (.d false (.l (a0.map bm))))),(1,tI a1),(2,tI a2),(7,tI q)],[],0⟩) ?_
  rintro v1 o H
  try dsimp only
  refine wI ?_
  obtain⟨v5,Hj,H⟩:=ob H
  refine jR ⟨[(0,.v (.c (.d false (.l (a0.map bm))))),(1,tI a1),(2,tI a2),(7,tI v1),(21,tB v5)],[],0⟩ ?_ ?_
  ·have H:=Hj
   refine gC H ?_ ?_<;>intro H
   ·obtain⟨x6,hx6,H⟩:=ob H
    refine nG (xdT (enc:=bm) hx6) ?_
    cases H
    exact wo
   ·cases H
    exact wo
  refine cC H ?_ ?_<;>intro H
  ·cases H
   refine ee ?_
   exact wo
  ·cases H
   refine ed (fun hq=>?_)
   cases hq
   refine wI ?_
   exact wo
 obtain⟨v7,Hj,H⟩:=ob H
 refine jR ⟨[(0,.v (.c (.d false (.l (a0.map bm))))),(1,tI a1),(2,tI a2),(7,tI v4),(36,tB v7)],[],0⟩ ?_ ?_
 ·have H:=Hj
  refine gC H ?_ ?_<;>intro H
  ·obtain⟨x8,hx8,H⟩:=ob H
   refine nG (xdT (enc:=bm) hx8) ?_
   cases H
   exact wo
  ·cases H
   exact wo
 refine cC H ?_ ?_<;>intro H
 ·obtain⟨h,H⟩:=rq H
  refine eR rfl (apT (enc:=bm) (ys:=([]:List ax)) (zs:=a0) h) ?_
  refine aW (jU (enc:=bm) (o:=0)) ?_
  obtain⟨x9,hx9,H⟩:=ob H
  refine nA (xwT hx9) ?_
  refine nA (oe (he:=fZ _ hx9)) ?_
  obtain⟨x10,hx10,H⟩:=ob H
  refine nA (xwT hx10) ?_
  refine sA (soT (enc:=bm) (a':=(⟨x10.au,WR (x9.ea+a2)⟩:ax)) hx10) ?_
  cases H
  exact ah
 ·refine zI [0,1,2,3,5,6,7,8,10,11,12,4,9,13,14] ?_
  obtain⟨h,H⟩:=rq H
  refine zA (Qo (enc:=bm) h (fun _=>rfl) rfl rfl rfl) ?_
  obtain⟨h,H⟩:=rq H
  refine zA (Qp (enc:=bm) h (fun _=>rfl) rfl rfl rfl) ?_
  obtain⟨h,H⟩:=rq H
  refine wA (A4 (enc:=bm) (ys:=([]:List ax)) (zs:=a0.take (v4).toNat) [0] h) ?_
  obtain⟨h,H⟩:=rq H
  refine wA (A4 (enc:=bm) (ys:=(([]:List ax)++(a0.take (v4).toNat))) (zs:=[(⟨a1,a2⟩:ax)]) [2,1] h) ?_
  obtain⟨h,H⟩:=rq H
  refine wA (A4 (enc:=bm) (ys:=((([]:List ax)++(a0.take (v4).toNat))++[(⟨a1,a2⟩:ax)])) (zs:=a0.drop (v4).toNat) [3] h) ?_
  refine jt (ds:=[0,2,3]) (by kernel_rfl) (by kernel_rfl) rfl ?_
  refine wI ?_
  cases H
  exact ah
end Go.AM
