/- A part. -/
import Derived.Test.YtljhooecmjejiaaGreatG
set_option linter.unusedVariables false
open Option renaming bind→Vj
namespace Go.AM
open Go.Proofs
attribute [local irreducible] AWN NS AWO AWR AWC DR cZ ey
set_option maxRecDepth 100000
set_option maxHeartbeats 40000000
def rG (a0:List ae):(Int×Int)→Option (cp (Int×Int) (Int))
 |(v1,v2)=>bif ltB v2 ((a0.length:Nat):Int) then(Vj (ix a0 v2) fun x5=>some (.next (WR (v1+((x5.aQ.length:Nat):Int)),WR (v2+1)))) else(some (.done v1))
def lP (a0:List ae):Option Int:=
 Vj (iter (rG a0) FU (0,0)) fun(v4:Int)=>some v4
theorem pA {a0:List ae} {r:Int} (H:lP a0=some r):Fn Tryz.prog 296 [aL (a0.map aG)] [.c (.d (.i .i64 r))]:=by
 refine fI Tryz.func296 Tryz.ntmps296 ?_
 obtain⟨v4,Hj,H⟩:=ob H
 refine jB ⟨[(3,tI v4)],[],0⟩ ?_ ?_
 ·refine iT Hj (fun q=>⟨[(0,.v (.c (.d false (.l (a0.map aG))))),(3,tI q.1),(4,tI q.2)],[],0⟩) ?_
  rintro⟨v1,v2⟩ o H
  try dsimp only
  refine wI ?_
  refine cC H ?_ ?_<;>intro H
  ·obtain⟨x5,hx5,H⟩:=ob H
   refine nA (xdT (enc:=aG) hx5) ?_
   cases H
   refine dU ?_
   exact wo
  ·cases H
   refine dT (fun hq=>?_)
   cases hq
   refine wI ?_
   exact wo
 cases H
 exact ah
def lc (a0:aj):(Int×Int)→Option (cp (Int×Int) (Int))
 |(v1,v2)=>bif ltB v2 ((a0.aD.length:Nat):Int) then(Vj (ix a0.aD v2) fun x5=>some (.next (WR (v1+x5.eg),WR (v2+1)))) else(some (.done v1))
def lb (a0:aj):Option Int:=
 Vj (iter (lc a0) FU (0,0)) fun(v4:Int)=>some v4
theorem yt {a0:aj} {r:Int} (H:lb a0=some r):Fn Tryz.prog 249 [.agg (dB a0)] [.c (.d (.i .i64 r))]:=by
 refine fI Tryz.func249 Tryz.ntmps249 ?_
 obtain⟨v4,Hj,H⟩:=ob H
 refine jB ⟨[(3,tI v4)],[],0⟩ ?_ ?_
 ·refine iT Hj (fun q=>⟨[(1,tP 0),(3,tI q.1),(4,tI q.2)],[(0,.var 66 (kM [.f] (cS a0)))],1⟩) ?_
  rintro⟨v1,v2⟩ o H
  try dsimp only
  refine wI ?_
  refine cC H ?_ ?_<;>intro H
  ·obtain⟨x5,hx5,H⟩:=ob H
   refine nA (xdT (enc:=bw) hx5) ?_
   cases H
   refine dU ?_
   exact wo
  ·cases H
   refine dT (fun hq=>?_)
   cases hq
   refine wI ?_
   exact wo
 cases H
 exact ah
def px (a0:aj) (a1:Int):Int→Option (cp (Int) (Int))
 |v1=>bif ltB v1 ((a0.aD.length:Nat):Int) then(Vj (ix a0.aD v1) fun x2=>bif eqB x2.au a1 then(dn (some v1)) else(some (.next (WR (v1+1))))) else(dn (some (-1)))
def mB (a0:aj) (a1:Int):Option Int:=
 iter (px a0 a1) FU 0
theorem vT {a0:aj} {a1:Int} {r:Int} (H:mB a0 a1=some r):Fn Tryz.prog 297 [.agg (dB a0),aI a1] [.c (.d (.i .i64 r))]:=by
 refine fI Tryz.func297 Tryz.ntmps297 ?_
 refine iT H (fun q=>⟨[(1,tI a1),(2,tP 0),(5,tI q)],[(0,.var 66 (kM [.f] (cS a0)))],1⟩) ?_
 rintro v1 o H
 try dsimp only
 refine wI ?_
 refine cC H ?_ ?_<;>intro H
 ·obtain⟨x2,hx2,H⟩:=ob H
  refine nA (xdT (enc:=bw) hx2) ?_
  refine cC H ?_ ?_<;>intro H
  ·obtain⟨r0,Hd,rfl⟩:=dnE H
   refine ks (fun hq=>?_)
   have H:=Hd.trans (congrArg some hq)
   refine wI ?_
   cases H
   exact ah
  ·cases H
   refine dU ?_
   exact wo
 ·obtain⟨r0,Hd,rfl⟩:=dnE H
  refine dT (fun hq=>?_)
  have H:=Hd.trans (congrArg some hq)
  refine wI ?_
  cases H
  exact ah
def zN (a0:List av) (a1:Int) (a2:Int):Option (List av):=
 bif cM 16 (([]:List av)++a0).length then(Vj (ix a0 a1) fun x1=>bif ltB a2 x1.eg then(Vj (ix a0 a1) fun x2=>Vj (ix (([]:List av)++a0) a1) fun x3=>some ((([]:List av)++a0).set (a1).toNat (⟨x3.au,WR (x2.eg-a2)⟩:av))) else(bif fL (([]:List av)++a0) 0 a1 then(bif fL a0 (WR (a1+1)) a0.length then(bif cM 16 ((([]:List av)++a0).take (a1).toNat++(a0.drop (WR (a1+1)).toNat)).length then(some ((([]:List av)++a0).take (a1).toNat++(a0.drop (WR (a1+1)).toNat))) else none) else none) else none)) else none
theorem LX {a0:List av} {a1:Int} {a2:Int} {r:List av} (H:zN a0 a1 a2=some r):Fn Tryz.prog 366 [aL (a0.map bw),aI a1,aI a2] [.c (.own 161 2 (r.map bw) r.length)]:=by
 refine fI Tryz.func366 Tryz.ntmps366 ?_
 obtain⟨h,H⟩:=rq H
 refine eS rfl (apT (enc:=bw) (ys:=([]:List av)) (zs:=a0) h) ?_
 refine aW (ji (enc:=bw) (o:=0)) ?_
 obtain⟨x1,hx1,H⟩:=ob H
 refine nA (xdT (enc:=bw) hx1) ?_
 refine cC H ?_ ?_<;>intro H
 ·obtain⟨x2,hx2,H⟩:=ob H
  refine nA (xdT (enc:=bw) hx2) ?_
  obtain⟨x3,hx3,H⟩:=ob H
  refine nA (xwT hx3) ?_
  refine sA (soT (enc:=bw) (a':=(⟨x3.au,WR (x2.eg-a2)⟩:av)) hx3) ?_
  cases H
  exact ah
 ·refine zI (List.range 9) ?_
  obtain⟨hs2,H⟩:=rq H
  refine zA (cwfT (enc:=bw) hs2 (by first|rfl|simp) rfl rfl rfl rfl) ?_
  obtain⟨h,H⟩:=rq H
  refine zA (Ry (enc:=bw) h (fun _=>rfl) rfl rfl rfl) ?_
  obtain⟨h,H⟩:=rq H
  refine wA (apxPF (enc:=bw) (h:=a1) (ys:=(([]:List av)++a0)) (zs:=a0.drop (WR (a1+1)).toNat) [0] hs2 h rfl (fun _=>rfl) (fun _=>rfl) rfl .d rfl rfl rfl rfl rfl rfl) ?_
  refine iV (ds:=[0]) (by kernel_rfl) (by kernel_rfl) rfl ?_
  refine wI ?_
  cases H
  exact ah
def g6 (a0:aM) (a1:Int):(Int×List Int)→Option (cp (Int×List Int) (List Int))
 |(v1,v2)=>bif ltB v1 ((a0.aZ.length:Nat):Int) then(Vj (ix a0.aZ v1) fun x6=>Vj (bif eqB x6.f5 a1 then(bif cM 8 (v2++[v1]).length then(some (v2++[v1])) else none) else(some v2)) fun(v7:List Int)=>some (.next (WR (v1+1),v7))) else(some (.done v2))
def nz (a0:aM) (a1:Int):Option (List Int):=
 Vj (iter (g6 a0 a1) FU (0,([]:List Int))) fun(v5:List Int)=>some v5
theorem Bc {a0:aM} {a1:Int} {r:List Int} (H:nz a0 a1=some r):Fn Tryz.prog 379 [.agg (lx a0),aI a1] [.c (.own 3 1 (r.map eI) r.length)]:=by
 refine fI Tryz.func379 Tryz.ntmps379 ?_
 obtain⟨v5,Hj,H⟩:=ob H
 refine jB ⟨[(5,.v (.c (.w 1 v5.length)))],[(1,w3 v5)],2⟩ ?_ ?_
 ·refine iT Hj (fun q=>⟨[(1,tI a1),(2,tP 0),(5,.v (.c (.w 1 q.2.length))),(6,tI q.1)],[(0,.var 26 [.d false (.l (a0.aZ.map dW))]),(1,w3 q.2)],2⟩) ?_
  rintro⟨v1,v2⟩ o H
  try dsimp only
  refine wI ?_
  refine cC H ?_ ?_<;>intro H
  ·obtain⟨x6,hx6,H⟩:=ob H
   refine nA (xdT (enc:=dW) hx6) ?_
   obtain⟨v7,Hj,H⟩:=ob H
   refine jA ⟨[(1,tI a1),(2,tP 0),(5,.v (.c (.w 1 v7.length))),(6,tI v1)],[(0,.var 26 [.d false (.l (a0.aZ.map dW))]),(1,w3 v7)],2⟩ ?_ ?_
   ·have H:=Hj
    refine cC H ?_ ?_<;>intro H
    ·obtain⟨h,H⟩:=rq H
     refine sA (apT (enc:=eI) (ys:=v2) (zs:=[v1]) h) ?_
     cases H
     exact wo
    ·cases H
     exact wo
   cases H
   refine dU ?_
   exact wo
  ·cases H
   refine dT (fun hq=>?_)
   cases hq
   refine wI ?_
   exact wo
 cases H
 exact ah
def rE (a0:List av) (a1:Int):Int→Option (cp (Int) (Int))
 |v1=>Vj (bif ltB v1 ((a0.length:Nat):Int) then(Vj (ix a0 v1) fun x6=>some (ltB x6.au a1)) else(some false)) fun(v5:Bool)=>bif v5 then(some (.next (WR (v1+1)))) else(some (.done v1))
def zM (a0:List av) (a1:Int) (a2:Int):Option (List av):=
 Vj (iter (rE a0 a1) FU 0) fun(v4:Int)=>Vj (bif ltB v4 ((a0.length:Nat):Int) then(Vj (ix a0 v4) fun x8=>some (eqB x8.au a1)) else(some false)) fun(v7:Bool)=>bif v7 then(bif cM 16 (([]:List av)++a0).length then(Vj (ix (([]:List av)++a0) v4) fun x9=>Vj (ix (([]:List av)++a0) v4) fun x10=>some ((([]:List av)++a0).set (v4).toNat (⟨x10.au,WR (x9.eg+a2)⟩:av))) else none) else(bif fL a0 0 v4 then(bif fL a0 v4 a0.length then(bif cM 16 (([]:List av)++(a0.take (v4).toNat)).length then(bif cM 16 ((([]:List av)++(a0.take (v4).toNat))++[(⟨a1,a2⟩:av)]).length then(bif cM 16 (((([]:List av)++(a0.take (v4).toNat))++[(⟨a1,a2⟩:av)])++(a0.drop (v4).toNat)).length then(some (((([]:List av)++(a0.take (v4).toNat))++[(⟨a1,a2⟩:av)])++(a0.drop (v4).toNat))) else none) else none) else none) else none) else none)
theorem LW {a0:List av} {a1:Int} {a2:Int} {r:List av} (H:zM a0 a1 a2=some r):Fn Tryz.prog 383 [aL (a0.map bw),aI a1,aI a2] [.c (.own 161 2 (r.map bw) r.length)]:=by
 refine fI Tryz.func383 Tryz.ntmps383 ?_
 obtain⟨v4,Hj,H⟩:=ob H
 refine jB ⟨[(0,.v (.c (.d false (.l (a0.map bw))))),(1,tI a1),(2,tI a2),(7,tI v4)],[],0⟩ ?_ ?_
 ·refine iT Hj (fun q=>⟨[(0,.v (.c (.d false (.l (a0.map bw))))),(1,tI a1),(2,tI a2),(7,tI q)],[],0⟩) ?_
  rintro v1 o H
  try dsimp only
  refine wI ?_
  obtain⟨v5,Hj,H⟩:=ob H
  refine jR ⟨[(0,.v (.c (.d false (.l (a0.map bw))))),(1,tI a1),(2,tI a2),(7,tI v1),(21,tB v5)],[],0⟩ ?_ ?_
  ·have H:=Hj
   refine gC H ?_ ?_<;>intro H
   ·obtain⟨x6,hx6,H⟩:=ob H
    refine nG (xdT (enc:=bw) hx6) ?_
    cases H
    exact wo
   ·cases H
    exact wo
  refine cC H ?_ ?_<;>intro H
  ·cases H
   refine dU ?_
   exact wo
  ·cases H
   refine dT (fun hq=>?_)
   cases hq
   refine wI ?_
   exact wo
 obtain⟨v7,Hj,H⟩:=ob H
 refine jR ⟨[(0,.v (.c (.d false (.l (a0.map bw))))),(1,tI a1),(2,tI a2),(7,tI v4),(36,tB v7)],[],0⟩ ?_ ?_
 ·have H:=Hj
  refine gC H ?_ ?_<;>intro H
  ·obtain⟨x8,hx8,H⟩:=ob H
   refine nG (xdT (enc:=bw) hx8) ?_
   cases H
   exact wo
  ·cases H
   exact wo
 refine cC H ?_ ?_<;>intro H
 ·obtain⟨h,H⟩:=rq H
  refine eS rfl (apT (enc:=bw) (ys:=([]:List av)) (zs:=a0) h) ?_
  refine aW (ji (enc:=bw) (o:=0)) ?_
  obtain⟨x9,hx9,H⟩:=ob H
  refine nA (xwT hx9) ?_
  refine nA (oe (he:=eU _ hx9)) ?_
  obtain⟨x10,hx10,H⟩:=ob H
  refine nA (xwT hx10) ?_
  refine sA (soT (enc:=bw) (a':=(⟨x10.au,WR (x9.eg+a2)⟩:av)) hx10) ?_
  cases H
  exact ah
 ·refine zI [0,1,2,3,5,6,7,8,10,11,12,4,9,13,14] ?_
  obtain⟨h,H⟩:=rq H
  refine zA (cdhT (enc:=bw) h (fun _=>rfl) rfl rfl rfl) ?_
  obtain⟨h,H⟩:=rq H
  refine zA (Ry (enc:=bw) h (fun _=>rfl) rfl rfl rfl) ?_
  obtain⟨h,H⟩:=rq H
  refine wA (B2 (enc:=bw) (ys:=([]:List av)) (zs:=a0.take (v4).toNat) [0] h) ?_
  obtain⟨h,H⟩:=rq H
  refine wA (B2 (enc:=bw) (ys:=(([]:List av)++(a0.take (v4).toNat))) (zs:=[(⟨a1,a2⟩:av)]) [2,1] h) ?_
  obtain⟨h,H⟩:=rq H
  refine wA (B2 (enc:=bw) (ys:=((([]:List av)++(a0.take (v4).toNat))++[(⟨a1,a2⟩:av)])) (zs:=a0.drop (v4).toNat) [3] h) ?_
  refine iV (ds:=[0,2,3]) (by kernel_rfl) (by kernel_rfl) rfl ?_
  refine wI ?_
  cases H
  exact ah
def tV (a0:ab) (a1:Int):Option (bD×ab):=
 Vj (ix a0.ay a1) fun x1=>bif fL a0.ay 0 a1 then(bif fL a0.ay (WR (a1+1)) a0.ay.length then(bif cM 176 (([]:List bD)++(a0.ay.take (a1).toNat)).length then(bif cM 176 ((([]:List bD)++(a0.ay.take (a1).toNat))++(a0.ay.drop (WR (a1+1)).toNat)).length then(some (x1,{a0 with ay:=((([]:List bD)++(a0.ay.take (a1).toNat))++(a0.ay.drop (WR (a1+1)).toNat))})) else none) else none) else none) else none
theorem BL {a0:ab} {a1:Int} {r:bD×ab} (H:tV a0 a1=some r):FnV Tryz.prog 286 (nS a0) [tP 200,tI a1] (nS r.2) (.v (.agg (kM [.t] (gD r.1)))) []:=by
 refine fV Tryz.func286 Tryz.ntmps286 ?_
 obtain⟨x1,hx1,H⟩:=ob H
 refine bT (iP 193 (hne:=tc (enc:=dK) hx1)) ?_
 refine nA (xwT hx1) ?_
 refine nA (oea (he:=eU _ hx1)) ?_
 refine zI [0,1,2,3,4,5,6,7,9,10,11,12,13,14,15,8,16,17,18,19] ?_
 obtain⟨hs5,H⟩:=rq H
 refine zA (cwhT (enc:=dK) hs5 (by first|rfl|simp) rfl rfl rfl rfl) ?_
 obtain⟨hs6,H⟩:=rq H
 refine zA (cwlT (enc:=dK) hs6 (by first|rfl|simp) rfl rfl rfl rfl) ?_
 obtain⟨h,H⟩:=rq H
 refine wA (apx (enc:=dK) (ys:=([]:List bD)) (zs:=a0.ay.take (a1).toNat) [212,193] h (hs:=Rm (enc:=dK) hs5 rfl)) ?_
 obtain⟨h,H⟩:=rq H
 refine wA (apx (enc:=dK) (ys:=(([]:List bD)++(a0.ay.take (a1).toNat))) (zs:=a0.ay.drop (WR (a1+1)).toNat) [213,193] h (hs:=Rn (enc:=dK) hs6 (by first|rfl|simp) rfl)) ?_
 refine wA (spx 100410) ?_
 refine iV (ds:=[212,213]) (by kernel_rfl) (by kernel_rfl) rfl ?_
 refine wI ?_
 cases H
 refine bV (Pd 193 214) ?_
 refine bV ((c8 193)) ?_
 exact bU
def lO (a0:cO) (a1:Int):Option Bool:=
 some (eqB a1 a0.uW)
theorem vO {a0:cO} {a1:Int} {r:Bool} (H:lO a0 a1=some r):Fn Tryz.prog 371 [.agg (qU a0),aI a1] [.c (.d (.b r))]:=by
 refine fI Tryz.func371 Tryz.ntmps371 ?_
 cases H
 exact ah
def pz (a0:List ae) (a1:Int):Int→Option (cp (Int) (Int))
 |v1=>bif ltB v1 ((a0.length:Nat):Int) then(Vj (ix a0 v1) fun x2=>bif eqB x2.cT a1 then(dn (some v1)) else(some (.next (WR (v1+1))))) else(dn (some (-1)))
def Bz (a0:List ae) (a1:Int):Option Int:=
 iter (pz a0 a1) FU 0
theorem IU {a0:List ae} {a1:Int} {r:Int} (H:Bz a0 a1=some r):Fn Tryz.prog 377 [aL (a0.map aG),aI a1] [.c (.d (.i .i64 r))]:=by
 refine fI Tryz.func377 Tryz.ntmps377 ?_
 refine iT H (fun q=>⟨[(0,.v (.c (.d false (.l (a0.map aG))))),(1,tI a1),(5,tI q)],[],0⟩) ?_
 rintro v1 o H
 try dsimp only
 refine wI ?_
 refine cC H ?_ ?_<;>intro H
 ·obtain⟨x2,hx2,H⟩:=ob H
  refine nA (xdT (enc:=aG) hx2) ?_
  refine cC H ?_ ?_<;>intro H
  ·obtain⟨r0,Hd,rfl⟩:=dnE H
   refine ks (fun hq=>?_)
   have H:=Hd.trans (congrArg some hq)
   refine wI ?_
   cases H
   exact ah
  ·cases H
   refine dU ?_
   exact wo
 ·obtain⟨r0,Hd,rfl⟩:=dnE H
  refine dT (fun hq=>?_)
  have H:=Hd.trans (congrArg some hq)
  refine wI ?_
  cases H
  exact ah
end Go.AM
