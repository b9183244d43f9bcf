/- A part. -/
import Derived.Test.YtljhooecmjejiaaGreatG
set_option linter.unusedVariables false
open Option renaming bind→Un
namespace Go.AM
open Go.Proofs
attribute [local irreducible] AWN NS AWO AWR AWC DR cZ eE
set_option maxRecDepth 100000
set_option maxHeartbeats 40000000
def nP (a0:Int) (a1:Int) (a2:Int):Option Bool:=
 Un (bif leB a1 a0 then(some (leB a0 a2)) else(some false)) fun(v1:Bool)=>some v1
theorem qB {a0:Int} {a1:Int} {a2:Int} {r:Bool} (H:nP a0 a1 a2=some r):Fn Tryz.prog 60 [aI a0,aI a1,aI a2] [.c (.d (.b r))]:=by
 refine fI Tryz.func60 Tryz.ntmps60 ?_
 obtain⟨v1,Hj,H⟩:=ob H
 refine jR ⟨[(6,tB v1)],[],0⟩ ?_ ?_
 ·have H:=Hj
  refine gC H ?_ ?_<;>intro H
  ·cases H
   exact wo
  ·cases H
   exact wo
 cases H
 exact ah
def jN (a0:ab) (a1:Int):Option Bool:=
 Un (nP a1 0 (WR (((a0.aY.length:Nat):Int)-1))) fun r1=>Un (bif r1 then(Un (nP a1 0 (WR (((a0.am.length:Nat):Int)-1))) fun r3=>some r3) else(some false)) fun(v2:Bool)=>some v2
theorem uk {a0:ab} {a1:Int} {r:Bool} (H:jN a0 a1=some r):Fn Tryz.prog 44 [.agg (gD a0),aI a1] [.c (.d (.b r))]:=by
 refine fI Tryz.func44 Tryz.ntmps44 ?_
 obtain⟨r1,q1,H⟩:=ob H
 refine nA (ca (hF:=qB q1)) ?_
 obtain⟨v2,Hj,H⟩:=ob H
 refine jR ⟨[(4,tB v2)],[],0⟩ ?_ ?_
 ·have H:=Hj
  refine gC H ?_ ?_<;>intro H
  ·obtain⟨r3,q3,H⟩:=ob H
   refine nG (ca (hF:=qB q3)) ?_
   cases H
   exact wo
  ·cases H
   exact wo
 cases H
 exact ah
def lh (a0:ab) (a1:Int):Option Bool:=
 Un (nP a1 0 (WR (((a0.ai.length:Nat):Int)-1))) fun r1=>Un (bif r1 then(Un (nP a1 0 (WR (((a0.am.length:Nat):Int)-1))) fun r3=>some r3) else(some false)) fun(v2:Bool)=>some v2
theorem vC {a0:ab} {a1:Int} {r:Bool} (H:lh a0 a1=some r):Fn Tryz.prog 45 [.agg (gD a0),aI a1] [.c (.d (.b r))]:=by
 refine fI Tryz.func45 Tryz.ntmps45 ?_
 obtain⟨r1,q1,H⟩:=ob H
 refine nA (ca (hF:=qB q1)) ?_
 obtain⟨v2,Hj,H⟩:=ob H
 refine jR ⟨[(4,tB v2)],[],0⟩ ?_ ?_
 ·have H:=Hj
  refine gC H ?_ ?_<;>intro H
  ·obtain⟨r3,q3,H⟩:=ob H
   refine nG (ca (hF:=qB q3)) ?_
   cases H
   exact wo
  ·cases H
   exact wo
 cases H
 exact ah
def sm (a0:List Int) (a1:List Int):Option Bool:=
 Un (vA a0 a1) fun r1=>some r1
theorem A8 {a0:List Int} {a1:List Int} {r:Bool} (H:sm a0 a1=some r):Fn Tryz.prog 91 [aL (a0.map eU8),aL (a1.map eU8)] [.c (.d (.b r))]:=by
 refine fI Tryz.func91 Tryz.ntmps91 ?_
 obtain⟨r1,q1,H⟩:=ob H
 refine nA (ca (hF:=zD q1)) ?_
 cases H
 exact ah
def kh (a0:List bw) (a1:List bw):Int→Option (cB (Int) (Bool))
 |v1=>bif ltB v1 ((a0.length:Nat):Int) then(Un (ix a0 v1) fun x2=>Un (ix a1 v1) fun x3=>Un (sm x2.aN x3.aN) fun r4=>bif !r4 then(dn (some false)) else(some (.next (WR (v1+1))))) else(dn (some true))
def oJ (a0:List bw) (a1:List bw):Option Bool:=
 bif ltB ((a1.length:Nat):Int) ((a0.length:Nat):Int) then(some false) else(iter (kh a0 a1) FU 0)
theorem A9 {a0:List bw} {a1:List bw} {r:Bool} (H:oJ a0 a1=some r):Fn Tryz.prog 46 [aL (a0.map cj),aL (a1.map cj)] [.c (.d (.b r))]:=by
 refine fI Tryz.func46 Tryz.ntmps46 ?_
 refine cC H ?_ ?_<;>intro H
 ·cases H
  exact ah
 ·refine iT H (fun q=>⟨[(0,.v (.c (.d false (.l (a0.map cj))))),(1,.v (.c (.d false (.l (a1.map cj))))),(12,tI ((a0.length:Nat):Int)),(13,tI q)],[],0⟩) ?_
  rintro v1 o H
  try dsimp only
  refine wI ?_
  refine cC H ?_ ?_<;>intro H
  ·refine dI ?_
   obtain⟨x2,hx2,H⟩:=ob H
   refine dA (xdT (enc:=cj) hx2) ?_
   obtain⟨x3,hx3,H⟩:=ob H
   refine dA (xdT (enc:=cj) hx3) ?_
   obtain⟨r4,q4,H⟩:=ob H
   refine dA (ca (hF:=A8 q4)) ?_
   refine wI ?_
   refine cC H ?_ ?_<;>intro H
   ·obtain⟨r0,Hd,rfl⟩:=dnE H
    refine lT (fun hq=>?_)
    have H:=Hd.trans (congrArg some hq)
    refine wI ?_
    cases H
    exact ah
   ·cases H
    refine ee ?_
    exact wo
  ·obtain⟨r0,Hd,rfl⟩:=dnE H
   refine ed (fun hq=>?_)
   have H:=Hd.trans (congrArg some hq)
   refine wI ?_
   cases H
   exact ah
def gE (a0:List bw):(Int×Int)→Option (cB (Int×Int) (Int))
 |(v1,v2)=>bif ltB v2 ((a0.length:Nat):Int) then(Un (ix a0 v2) fun x5=>some (.next (WR (v1+((x5.aN.length:Nat):Int)),WR (v2+1)))) else(some (.done v1))
def pE (a0:List bw):Option Int:=
 Un (iter (gE a0) FU (0,0)) fun(v4:Int)=>some v4
theorem ym {a0:List bw} {r:Int} (H:pE a0=some r):Fn Tryz.prog 47 [aL (a0.map cj)] [.c (.d (.i .i64 r))]:=by
 refine fI Tryz.func47 Tryz.ntmps47 ?_
 obtain⟨v4,Hj,H⟩:=ob H
 refine jB ⟨[(3,tI v4)],[],0⟩ ?_ ?_
 ·refine iT Hj (fun q=>⟨[(3,tI q.1),(6,.v (.c (.d false (.l (a0.map cj))))),(7,tI ((a0.length:Nat):Int)),(8,tI q.2)],[],0⟩) ?_
  rintro⟨v1,v2⟩ o H
  try dsimp only
  refine wI ?_
  refine cC H ?_ ?_<;>intro H
  ·obtain⟨x5,hx5,H⟩:=ob H
   refine nA (xdT (enc:=cj) hx5) ?_
   cases H
   refine ee ?_
   exact wo
  ·cases H
   refine ed (fun hq=>?_)
   cases hq
   refine wI ?_
   exact wo
 cases H
 exact ah
def QF (a0:Int) (a1:Int):Option Int:=
 bif ltB a1 a0 then(some a1) else(some a0)
theorem QG {a0:Int} {a1:Int} {r:Int} (H:QF a0 a1=some r):Fn Tryz.prog 48 [aI a0,aI a1] [.c (.d (.i .i64 r))]:=by
 refine fI Tryz.func48 Tryz.ntmps48 ?_
 refine cC H ?_ ?_<;>intro H
 ·cases H
  exact ah
 ·cases H
  exact ah
def QD (a0:Int) (a1:Int):Option Int:=
 bif ltB a0 a1 then(some a1) else(some a0)
theorem QE {a0:Int} {a1:Int} {r:Int} (H:QD a0 a1=some r):Fn Tryz.prog 49 [aI a0,aI a1] [.c (.d (.i .i64 r))]:=by
 refine fI Tryz.func49 Tryz.ntmps49 ?_
 refine cC H ?_ ?_<;>intro H
 ·cases H
  exact ah
 ·cases H
  exact ah
def jg (a0:ag) (a1:Int):Option Int:=
 Un (QD a1 0) fun r1=>Un (QF r1 ((a0.ao.length:Nat):Int)) fun r2=>bif fw a0.ao 0 r2 then(Un (pE (a0.ao.take (r2).toNat)) fun r3=>some r3) else none
theorem rp {a0:ag} {a1:Int} {r:Int} (H:jg a0 a1=some r):Fn Tryz.prog 12 [.agg (bS a0),aI a1] [.c (.d (.i .i64 r))]:=by
 refine fI Tryz.func12 Tryz.ntmps12 ?_
 refine dI ?_
 obtain⟨r1,q1,H⟩:=ob H
 refine dA (ca (hF:=QE q1)) ?_
 obtain⟨r2,q2,H⟩:=ob H
 refine dA (ca (hF:=QG q2)) ?_
 obtain⟨h,H⟩:=rq H
 refine dA (Qo (enc:=cj) h (fun _=>rfl) rfl rfl rfl) ?_
 obtain⟨r3,q3,H⟩:=ob H
 refine dA (ca (hF:=ym q3)) ?_
 refine wI ?_
 cases H
 exact ah
def eS (a0:ag):Option Int:=
 some (WR ((WR (a0.an.bj-1))-((a0.an.aw.length:Nat):Int)))
theorem kf {a0:ag} {r:Int} (H:eS a0=some r):Fn Tryz.prog 50 [.agg (bS a0)] [.c (.d (.i .i64 r))]:=by
 refine fI Tryz.func50 Tryz.ntmps50 ?_
 cases H
 exact ah
end Go.AM
