/- A part. -/
import Derived.Test.YtljhooecmjejiaaGreatI0
set_option linter.unusedVariables false
open Option renaming bind→Vj
namespace Go.AM
open Go.Proofs
attribute [local irreducible] AWN NS AWO AWR AWC DR cZ ey
set_option maxRecDepth 100000
set_option maxHeartbeats 40000000
def jv (a1:List Int):(Int×Int)→Option (cp (Int×Int) (Int))
 |(v2,v3)=>bif ltB v3 ((a1.length:Nat):Int) then(Vj (ix a1 v3) fun x7=>Vj (i6 v2 x7) fun r8=>some (.next (r8,WR (v3+1)))) else(some (.done v2))
def lC (a0:Int) (a1:List Int):Option Int:=
 Vj (i6 11 a0) fun r1=>Vj (iter (jv a1) FU (r1,0)) fun(v6:Int)=>Vj (i6 v6 a0) fun r9=>some r9
theorem qV {a0:Int} {a1:List Int} {r:Int} (H:lC a0 a1=some r):Fn Tryz.prog 169 [aI a0,aL (a1.map eI)] [.c (.d (.i .i64 r))]:=by
 refine fI Tryz.func169 Tryz.ntmps169 ?_
 obtain⟨r1,q1,H⟩:=ob H
 refine nA (ca (hF:=s6 q1)) ?_
 obtain⟨v6,Hj,H⟩:=ob H
 refine jB ⟨[(0,tI a0),(5,tI v6)],[],0⟩ ?_ ?_
 ·refine iT Hj (fun q=>⟨[(0,tI a0),(5,tI q.1),(10,.v (.c (.d false (.l (a1.map eI))))),(11,tI ((a1.length:Nat):Int)),(12,tI q.2)],[],0⟩) ?_
  rintro⟨v2,v3⟩ o H
  try dsimp only
  refine wI ?_
  refine cC H ?_ ?_<;>intro H
  ·obtain⟨x7,hx7,H⟩:=ob H
   refine nA (xdT (enc:=eI) hx7) ?_
   obtain⟨r8,q8,H⟩:=ob H
   refine nA (ca (hF:=s6 q8)) ?_
   cases H
   refine dU ?_
   exact wo
  ·cases H
   refine dT (fun hq=>?_)
   cases hq
   refine wI ?_
   exact wo
 obtain⟨r9,q9,H⟩:=ob H
 refine nA (ca (hF:=s6 q9)) ?_
 cases H
 exact ah
def oi (a0:Int) (a1:Int):Option Int:=
 Vj (lC a0 [9,a1]) fun r1=>bif eqB r1 0 then(some 1) else(some r1)
theorem wD {a0:Int} {a1:Int} {r:Int} (H:oi a0 a1=some r):Fn Tryz.prog 220 [aI a0,aI a1] [.c (.d (.i .i64 r))]:=by
 refine fI Tryz.func220 Tryz.ntmps220 ?_
 obtain⟨r1,q1,H⟩:=ob H
 refine nA (ca (hF:=qV q1)) ?_
 refine cC H ?_ ?_<;>intro H
 ·cases H
  exact ah
 ·cases H
  exact ah
def ta (a0:Int) (a1:Int) (a2:Int) (a3:List Int):Option Int:=
 Vj (nj a3) fun r1=>bif cM 8 ([a1,a2]++r1).length then(Vj (lC a0 ([a1,a2]++r1)) fun r2=>some r2) else none
theorem Cc {a0:Int} {a1:Int} {a2:Int} {a3:List Int} {r:Int} (H:ta a0 a1 a2 a3=some r):Fn Tryz.prog 274 [aI a0,aI a1,aI a2,aL (a3.map eU8)] [.c (.d (.i .i64 r))]:=by
 refine fI Tryz.func274 Tryz.ntmps274 ?_
 obtain⟨r1,q1,H⟩:=ob H
 refine nA (ca (hF:=AE q1)) ?_
 obtain⟨h,H⟩:=rq H
 refine sA (apT (enc:=eI) (ys:=[a1,a2]) (zs:=r1) h) ?_
 obtain⟨r2,q2,H⟩:=ob H
 refine nA (ca (hF:=qV q2)) ?_
 cases H
 exact ah
def sZ (a0:Int) (r1:List Int):(Int×List Int)→Option (cp (Int×List Int) (List Int))
 |(v2,v3)=>bif ltB v2 ((r1.length:Nat):Int) then(Vj (ix v3 v2) fun x8=>Vj (lC a0 [v2]) fun r9=>Vj (ix v3 v2) fun x10=>some (.next (WR (v2+1),(v3.set (v2).toNat (IntKind.u8.wrap (x8-(IntKind.u8.wrap (Int.tmod r9 256)))))))) else(some (.done v3))
def wC (a0:Int) (a1:List Int):Option (List Int):=
 Vj (qX a1) fun r1=>Vj (iter (sZ a0 r1) FU (0,r1)) fun(v7:List Int)=>some v7
theorem Ih {a0:Int} {a1:List Int} {r:List Int} (H:wC a0 a1=some r):Fn Tryz.prog 219 [aI a0,aL (a1.map eU8)] [.c (.own 5 1 (r.map eU8) r.length)]:=by
 refine fI Tryz.func219 Tryz.ntmps219 ?_
 obtain⟨r1,q1,H⟩:=ob H
 refine nA (ca (hF:=Eg q1)) ?_
 obtain⟨v7,Hj,H⟩:=ob H
 refine jB ⟨[(5,.v (.c (.w 0 v7.length)))],[(0,w5 v7)],1⟩ ?_ ?_
 ·refine iT Hj (fun q=>⟨[(0,tI a0),(5,.v (.c (.w 0 q.2.length))),(10,tI ((r1.length:Nat):Int)),(11,tI q.1)],[(0,w5 q.2)],1⟩) ?_
  rintro⟨v2,v3⟩ o H
  try dsimp only
  refine wI ?_
  refine cC H ?_ ?_<;>intro H
  ·refine pV [0,1,2,3,4,5,6,7,8,9,10,11,12] (h:=?_)
   refine wkb ?_
   obtain⟨x8,hx8,H⟩:=ob H
   refine iA rfl (xwT hx8) ?_
   refine wkb ?_
   refine iA rfl (oe (he:=eU _ hx8)) ?_
   refine wkb ?_
   refine xS rfl (bsx (bs rfl rfl rfl rfl rfl rfl rfl rfl) rfl) ?_
   refine wkb ?_
   obtain⟨r9,q9,H⟩:=ob H
   refine iA rfl (ca (hF:=qV q9)) ?_
   refine wkb ?_
   refine iA rfl (ir rfl rfl rfl (by decide)) ?_
   refine wkb ?_
   obtain⟨x10,hx10,H⟩:=ob H
   refine iA rfl (xwT hx10) ?_
   refine wkb ?_
   refine Au (by kernel_rfl) rfl (by kernel_rfl) bO (f8 rfl (soT (enc:=eU8) (a':=IntKind.u8.wrap (x8-(IntKind.u8.wrap (Int.tmod r9 256)))) hx10)) bO rfl ?_
   refine wkb ?_
   refine wI ?_
   cases H
   refine dU ?_
   exact wo
  ·cases H
   refine dT (fun hq=>?_)
   cases hq
   refine wI ?_
   exact wo
 cases H
 exact ah
def s3 (a0:List bp) (a1:Int) (a2:b8):Int→Option (cp (Int) (Bool))
 |v1=>bif ltB v1 ((a0.length:Nat):Int) then(Vj (ix a0 v1) fun x2=>Vj (bif eqB x2.aa a1 then(Vj (lU x2.y8 a2) fun r4=>some r4) else(some false)) fun(v3:Bool)=>bif v3 then(dn (some true)) else(some (.next (WR (v1+1))))) else(dn (some false))
def wF (a0:List bp) (a1:Int) (a2:b8):Option Bool:=
 iter (s3 a0 a1 a2) FU 0
theorem AF {a0:List bp} {a1:Int} {a2:b8} {r:Bool} (H:wF a0 a1 a2=some r):Fn Tryz.prog 88 [aL (a0.map da),aI a1,.agg (ki a2)] [.c (.d (.b r))]:=by
 refine fI Tryz.func88 Tryz.ntmps88 ?_
 refine iT H (fun q=>⟨[(1,tI a1),(5,tP 0),(9,.v (.c (.d false (.l (a0.map da))))),(10,tI ((a0.length:Nat):Int)),(11,tI q)],[(0,.var 97 [.d false (.l (a2.Steps.map eI))])],1⟩) ?_
 rintro v1 o H
 try dsimp only
 refine wI ?_
 refine cC H ?_ ?_<;>intro H
 ·obtain⟨x2,hx2,H⟩:=ob H
  refine nA (xdT (enc:=da) hx2) ?_
  obtain⟨v3,Hj,H⟩:=ob H
  refine jR ⟨[(1,tI a1),(5,tP 0),(9,.v (.c (.d false (.l (a0.map da))))),(10,tI ((a0.length:Nat):Int)),(11,tI v1),(24,tB v3)],[(0,.var 97 [.d false (.l (a2.Steps.map eI))])],1⟩ ?_ ?_
  ·have H:=Hj
   refine gC H ?_ ?_<;>intro H
   ·obtain⟨r4,q4,H⟩:=ob H
    refine nG (ca (hF:=zg q4)) ?_
    cases H
    exact wo
   ·cases H
    exact wo
  refine cC H ?_ ?_<;>intro H
  ·obtain⟨r0,Hd,rfl⟩:=dnE H
   refine ks (fun hq=>?_)
   have H:=Hd.trans (congrArg some hq)
   refine wI ?_
   cases H
   exact ah
  ·cases H
   refine dU ?_
   exact wo
 ·obtain⟨r0,Hd,rfl⟩:=dnE H
  refine dT (fun hq=>?_)
  have H:=Hd.trans (congrArg some hq)
  refine wI ?_
  cases H
  exact ah
def mj (a0:List bp) (a1:ao):Option Bool:=
 Vj (jw a1.aO) fun r1=>Vj (wF a0 a1.aa r1) fun r2=>some r2
theorem u5 {a0:List bp} {a1:ao} {r:Bool} (H:mj a0 a1=some r):Fn Tryz.prog 82 [aL (a0.map da),.agg (dq a1)] [.c (.d (.b r))]:=by
 refine fI Tryz.func82 Tryz.ntmps82 ?_
 refine dI ?_
 obtain⟨r1,q1,H⟩:=ob H
 refine dA (ca (hF:=rX q1)) ?_
 obtain⟨r2,q2,H⟩:=ob H
 refine dA (ca (hF:=AF q2)) ?_
 refine wI ?_
 cases H
 exact ah
def mW (a0:ab) (a1:List bp) (a2:Int):(Int×List Int)→Option (cp (Int×List Int) (List Int))
 |(v1,v2)=>bif ltB v1 ((a0.ay.length:Nat):Int) then(Vj (ix a0.ay v1) fun x8=>Vj (bif eqB x8.aN a2 then(bif x8.cq then(Vj (mj a1 x8.bC) fun r10=>some r10) else(some false)) else(some false)) fun(v9:Bool)=>Vj (bif v9 then(bif cM 8 (v2++[v1]).length then(some (v2++[v1])) else none) else(some v2)) fun(v11:List Int)=>some (.next (WR (v1+1),v11))) else(some (.done v2))
def iZ (a0:ab) (a1:List bp) (a2:Int):Option (List Int):=
 Vj (iter (mW a0 a1 a2) FU (0,([]:List Int))) fun(v7:List Int)=>some v7
theorem vA {a0:ab} {a1:List bp} {a2:Int} {r:List Int} (H:iZ a0 a1 a2=some r):Fn Tryz.prog 34 [.agg (ly a0),aL (a1.map da),aI a2] [.c (.own 3 1 (r.map eI) r.length)]:=by
 refine fI Tryz.func34 Tryz.ntmps34 ?_
 obtain⟨v7,Hj,H⟩:=ob H
 refine jB ⟨[(7,.v (.c (.w 1 v7.length)))],[(1,w3 v7)],2⟩ ?_ ?_
 ·refine iT Hj (fun q=>⟨[(1,.v (.c (.d false (.l (a1.map da))))),(2,tI a2),(7,.v (.c (.w 1 q.2.length))),(12,.v (.c (.d false (.l (a0.ay.map dK))))),(13,tI ((a0.ay.length:Nat):Int)),(14,tI q.1)],[(1,w3 q.2)],2⟩) ?_
  rintro⟨v1,v2⟩ o H
  try dsimp only
  refine wI ?_
  refine cC H ?_ ?_<;>intro H
  ·obtain⟨x8,hx8,H⟩:=ob H
   refine nA (xdT (enc:=dK) hx8) ?_
   obtain⟨v9,Hj,H⟩:=ob H
   refine jR ⟨[(1,.v (.c (.d false (.l (a1.map da))))),(2,tI a2),(7,.v (.c (.w 1 v2.length))),(8,tI v1),(12,.v (.c (.d false (.l (a0.ay.map dK))))),(13,tI ((a0.ay.length:Nat):Int)),(14,tI v1),(32,tB v9)],[(1,w3 v2)],2⟩ ?_ ?_
   ·have H:=Hj
    refine gC H ?_ ?_<;>intro H
    ·refine gC H ?_ ?_<;>intro H
     ·obtain⟨r10,q10,H⟩:=ob H
      refine nG (ca (hF:=u5 q10)) ?_
      cases H
      exact wo
     ·cases H
      exact wo
    ·cases H
     exact wo
   obtain⟨v11,Hj,H⟩:=ob H
   refine jA ⟨[(1,.v (.c (.d false (.l (a1.map da))))),(2,tI a2),(7,.v (.c (.w 1 v11.length))),(12,.v (.c (.d false (.l (a0.ay.map dK))))),(13,tI ((a0.ay.length:Nat):Int)),(14,tI v1)],[(1,w3 v11)],2⟩ ?_ ?_
   ·have H:=Hj
    refine cC H ?_ ?_<;>intro H
    ·obtain⟨h,H⟩:=rq H
     refine sA (apT (enc:=eI) (ys:=v2) (zs:=[v1]) h) ?_
     cases H
     exact wo
    ·cases H
     exact wo
   cases H
   refine dU ?_
   exact wo
  ·cases H
   refine dT (fun hq=>?_)
   cases hq
   refine wI ?_
   exact wo
 cases H
 exact ah
def iY (a0:List bp) (a1:Int):Option Bool:=
 Vj (kA) fun r1=>Vj (wF a0 a1 r1) fun r2=>some r2
theorem vx {a0:List bp} {a1:Int} {r:Bool} (H:iY a0 a1=some r):Fn Tryz.prog 40 [aL (a0.map da),aI a1] [.c (.d (.b r))]:=by
 refine fI Tryz.func40 Tryz.ntmps40 ?_
 obtain⟨r1,q1,H⟩:=ob H
 refine nA (ca (hF:=uM q1)) ?_
 obtain⟨r2,q2,H⟩:=ob H
 refine nA (ca (hF:=AF q2)) ?_
 cases H
 exact ah
end Go.AM
