/- A part. -/
import Derived.Test.YtljhooecmjejiaaGreatS2
import Derived.Test.YtljhooecmjejiaaGreatS3
set_option linter.unusedVariables false
open Option renaming bind→Vj
namespace Go.AM
open Go.Proofs
attribute [local irreducible] AWN NS AWO AWR AWC DR cZ ey
set_option maxRecDepth 100000
set_option maxHeartbeats 40000000
def gU (a0:ab) (a1:bD):Option Bool:=
 Vj (bif ltB ((a0.ay.length:Nat):Int) 200 then(Vj (cH a1.aN 0 (WR (((a0.am.length:Nat):Int)-1))) fun r2=>bif r2 then(Vj (cH a1.aX 0 (WR (((a0.dZ.aZ.length:Nat):Int)-1))) fun r3=>some r3) else(some false)) else(some false)) fun(v1:Bool)=>some v1
theorem tU {a0:ab} {a1:bD} {r:Bool} (H:gU a0 a1=some r):Fn Tryz.prog 233 [.agg (ly a0),.agg (dK a1)] [.c (.d (.b r))]:=by
 refine fI Tryz.func233 Tryz.ntmps233 ?_
 obtain⟨v1,Hj,H⟩:=ob H
 refine jR ⟨[(4,tB v1)],[],0⟩ ?_ ?_
 ·have H:=Hj
  refine gC H ?_ ?_<;>intro H
  ·obtain⟨r2,q2,H⟩:=ob H
   refine nG (ca (hF:=bL q2)) ?_
   refine gC H ?_ ?_<;>intro H
   ·obtain⟨r3,q3,H⟩:=ob H
    refine nG (ca (hF:=bL q3)) ?_
    cases H
    exact wo
   ·cases H
    exact wo
  ·cases H
   exact wo
 cases H
 exact ah
def p7 (a0:bb) (a1:bb):Option Bool:=
 Vj (bif eqB a0.cf a1.cf then(bif eqB a0.em a1.em then(bif eqB a0.gV a1.gV then(Vj (mt a0.aQ a1.aQ) fun r2=>some r2) else(some false)) else(some false)) else(some false)) fun(v1:Bool)=>some v1
theorem zm {a0:bb} {a1:bb} {r:Bool} (H:p7 a0 a1=some r):Fn Tryz.prog 364 [.agg (ei a0),.agg (ei a1)] [.c (.d (.b r))]:=by
 refine fI Tryz.func364 Tryz.ntmps364 ?_
 obtain⟨v1,Hj,H⟩:=ob H
 refine jR ⟨[(4,tB v1)],[],0⟩ ?_ ?_
 ·have H:=Hj
  refine gC H ?_ ?_<;>intro H
  ·refine gC H ?_ ?_<;>intro H
   ·refine gC H ?_ ?_<;>intro H
    ·obtain⟨r2,q2,H⟩:=ob H
     refine nG (ca (hF:=vc q2)) ?_
     cases H
     exact wo
    ·cases H
     exact wo
   ·cases H
    exact wo
  ·cases H
   exact wo
 cases H
 exact ah
def fD (a0:aM) (a2:Int):(Int×List Int)→Option (cp (Int×List Int) (List Int))
 |(v3,v4)=>Vj (bif ltB v3 ((a0.aZ.length:Nat):Int) then(Vj (cH a2 1 4) fun r9=>some r9) else(some false)) fun(v8:Bool)=>bif v8 then(bif cM 8 (v4++[v3]).length then(some (.next (WR (v3+1),(v4++[v3])))) else none) else(some (.done v4))
def nC (a0:aM) (a1:Int) (a2:Int):Option (List Int):=
 Vj (nz a0 a1) fun r1=>Vj (bif eqB a2 1 then(some (ltB 0 ((r1.length:Nat):Int))) else(some false)) fun(v2:Bool)=>bif v2 then(some r1) else(Vj (iter (fD a0 a2) FU (0,([]:List Int))) fun(v7:List Int)=>some v7)
theorem Bh {a0:aM} {a1:Int} {a2:Int} {r:List Int} (H:nC a0 a1 a2=some r):Fn Tryz.prog 367 [.agg (lx a0),aI a1,aI a2] [.c (.own 3 1 (r.map eI) r.length)]:=by
 refine fI Tryz.func367 Tryz.ntmps367 ?_
 obtain⟨r1,q1,H⟩:=ob H
 refine nA (ca (hF:=Bc q1)) ?_
 obtain⟨v2,Hj,H⟩:=ob H
 refine jR ⟨[(2,tI a2),(3,tP 0),(7,.v (.c (.w 1 r1.length))),(19,tB v2)],[(0,.var 26 [.d false (.l (a0.aZ.map dW))]),(1,w3 r1)],2⟩ ?_ ?_
 ·have H:=Hj
  refine gC H ?_ ?_<;>intro H
  ·cases H
   exact wo
  ·cases H
   exact wo
 refine cC H ?_ ?_<;>intro H
 ·cases H
  exact ah
 ·obtain⟨v7,Hj,H⟩:=ob H
  refine jB ⟨[(8,.v (.c (.w 2 v7.length)))],[(2,w3 v7)],3⟩ ?_ ?_
  ·refine iT Hj (fun q=>⟨[(2,tI a2),(3,tP 0),(8,.v (.c (.w 2 q.2.length))),(9,tI q.1)],[(0,.var 26 [.d false (.l (a0.aZ.map dW))]),(2,w3 q.2)],3⟩) ?_
   rintro⟨v3,v4⟩ o H
   try dsimp only
   refine wI ?_
   obtain⟨v8,Hj,H⟩:=ob H
   refine jR ⟨[(2,tI a2),(3,tP 0),(8,.v (.c (.w 2 v4.length))),(9,tI v3),(30,tB v8)],[(0,.var 26 [.d false (.l (a0.aZ.map dW))]),(2,w3 v4)],3⟩ ?_ ?_
   ·have H:=Hj
    refine gC H ?_ ?_<;>intro H
    ·obtain⟨r9,q9,H⟩:=ob H
     refine nG (ca (hF:=bL q9)) ?_
     cases H
     exact wo
    ·cases H
     exact wo
   refine cC H ?_ ?_<;>intro H
   ·obtain⟨h,H⟩:=rq H
    refine sA (apT (enc:=eI) (ys:=v4) (zs:=[v3]) h) ?_
    cases H
    refine dU ?_
    exact wo
   ·cases H
    refine dT (fun hq=>?_)
    cases hq
    refine wI ?_
    exact wo
  cases H
  exact ah
def kT (a0:ag):Option Int:=
 Vj (lP a0.aq.aw) fun r1=>some r1
theorem uT {a0:ag} {r:Int} (H:kT a0=some r):Fn Tryz.prog 369 [.agg (bZ a0)] [.c (.d (.i .i64 r))]:=by
 refine fI Tryz.func369 Tryz.ntmps369 ?_
 obtain⟨r1,q1,H⟩:=ob H
 refine nA (ca (hF:=pA q1)) ?_
 cases H
 exact ah
def qz (a0:ab) (a1:Int):Option Bool:=
 Vj (Bg ((a0.dZ.aZ.length:Nat):Int) 6) fun r1=>Vj (cH a1 0 (WR (r1-1))) fun r2=>Vj (bif r2 then(bif leB 0 a1 then(some (eqB (xN .i64 (B3 .i64 a0.dt a1) 1) 0)) else none) else(some false)) fun(v3:Bool)=>some v3
theorem yQ {a0:ab} {a1:Int} {r:Bool} (H:qz a0 a1=some r):Fn Tryz.prog 289 [.agg (ly a0),aI a1] [.c (.d (.b r))]:=by
 refine fI Tryz.func289 Tryz.ntmps289 ?_
 obtain⟨r1,q1,H⟩:=ob H
 refine nA (ca (hF:=yn q1)) ?_
 obtain⟨r2,q2,H⟩:=ob H
 refine nA (ca (hF:=bL q2)) ?_
 obtain⟨v3,Hj,H⟩:=ob H
 refine jR ⟨[(4,tB v3)],[],0⟩ ?_ ?_
 ·have H:=Hj
  refine gC H ?_ ?_<;>intro H
  ·obtain⟨h,H⟩:=rq H
   refine nG (Ii h rfl rfl rfl rfl) ?_
   cases H
   exact wo
  ·cases H
   exact wo
 cases H
 exact ah
def iI (a0:aA):Option Bool:=
 Vj (cH a0.aR 1 8) fun r1=>Vj (bif r1 then(Vj (cH a0.aX 0 5) fun r3=>bif r3 then(Vj (cH a0.aa 0 999999) fun r4=>bif r4 then(Vj (cH a0.aO 0 999999) fun r5=>bif r5 then(Vj (cH a0.bN 0 1000000000000) fun r6=>some r6) else(some false)) else(some false)) else(some false)) else(some false)) fun(v2:Bool)=>some v2
theorem qA {a0:aA} {r:Bool} (H:iI a0=some r):Fn Tryz.prog 354 [.agg (eb a0)] [.c (.d (.b r))]:=by
 refine fI Tryz.func354 Tryz.ntmps354 ?_
 obtain⟨r1,q1,H⟩:=ob H
 refine nA (ca (hF:=bL q1)) ?_
 obtain⟨v2,Hj,H⟩:=ob H
 refine jR ⟨[(2,tB v2)],[],0⟩ ?_ ?_
 ·have H:=Hj
  refine gC H ?_ ?_<;>intro H
  ·obtain⟨r3,q3,H⟩:=ob H
   refine nG (ca (hF:=bL q3)) ?_
   refine gC H ?_ ?_<;>intro H
   ·obtain⟨r4,q4,H⟩:=ob H
    refine nG (ca (hF:=bL q4)) ?_
    refine gC H ?_ ?_<;>intro H
    ·obtain⟨r5,q5,H⟩:=ob H
     refine nG (ca (hF:=bL q5)) ?_
     refine gC H ?_ ?_<;>intro H
     ·obtain⟨r6,q6,H⟩:=ob H
      refine nG (ca (hF:=bL q6)) ?_
      cases H
      exact wo
     ·cases H
      exact wo
    ·cases H
     exact wo
   ·cases H
    exact wo
  ·cases H
   exact wo
 cases H
 exact ah
def tw (a0:List bp) (a1:Int) (a2:b8):Int→Option (cp (Int) (Bool))
 |v1=>bif ltB v1 ((a0.length:Nat):Int) then(Vj (ix a0 v1) fun x2=>Vj (bif eqB x2.aa a1 then(Vj (ix a0 v1) fun x4=>Vj (lY x4.y8 a2) fun r5=>some r5) else(some false)) fun(v3:Bool)=>bif v3 then(dn (some true)) else(some (.next (WR (v1+1))))) else(dn (some false))
def tv (a0:List bp) (a1:Int) (a2:b8):Option Bool:=
 iter (tw a0 a1 a2) FU 0
theorem IH {a0:List bp} {a1:Int} {a2:b8} {r:Bool} (H:tv a0 a1 a2=some r):Fn Tryz.prog 35 [aL (a0.map da),aI a1,.agg (ki a2)] [.c (.d (.b r))]:=by
 refine fI Tryz.func35 Tryz.ntmps35 ?_
 refine iT H (fun q=>⟨[(0,.v (.c (.d false (.l (a0.map da))))),(1,tI a1),(5,tP 0),(7,tI q)],[(0,.var 97 [.d false (.l (a2.Steps.map eI))])],1⟩) ?_
 rintro v1 o H
 try dsimp only
 refine wI ?_
 refine cC H ?_ ?_<;>intro H
 ·refine dI ?_
  obtain⟨x2,hx2,H⟩:=ob H
  refine dA (xdT (enc:=da) hx2) ?_
  obtain⟨v3,Hj,H⟩:=ob H
  refine fF ⟨[(0,.v (.c (.d false (.l (a0.map da))))),(1,tI a1),(5,tP 0),(7,tI v1),(29,tB v3)],[(0,.var 97 [.d false (.l (a2.Steps.map eI))])],1⟩ ?_ ?_
  ·have H:=Hj
   refine wI ?_
   refine dC H ?_ ?_<;>intro H
   ·obtain⟨x4,hx4,H⟩:=ob H
    refine dG (xdT (enc:=da) hx4) ?_
    obtain⟨r5,q5,H⟩:=ob H
    refine dG (ca (hF:=zn q5)) ?_
    refine wI ?_
    cases H
    exact wo
   ·refine wI ?_
    cases H
    exact wo
  refine wI ?_
  refine cC H ?_ ?_<;>intro H
  ·refine wI ?_
   obtain⟨r0,Hd,rfl⟩:=dnE H
   refine ks (fun hq=>?_)
   have H:=Hd.trans (congrArg some hq)
   refine wI ?_
   cases H
   exact ah
  ·refine wI ?_
   cases H
   refine dU ?_
   exact wo
 ·obtain⟨r0,Hd,rfl⟩:=dnE H
  refine dT (fun hq=>?_)
  have H:=Hd.trans (congrArg some hq)
  refine wI ?_
  cases H
  exact ah
end Go.AM
