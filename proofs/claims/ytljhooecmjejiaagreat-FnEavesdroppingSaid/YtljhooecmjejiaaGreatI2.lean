/- A part. -/
import Derived.Test.YtljhooecmjejiaaGreatI1
set_option linter.unusedVariables false
open Option renaming bind→Vj
namespace Go.AM
open Go.Proofs
attribute [local irreducible] AWN NS AWO AWR AWC DR cZ ey
set_option maxRecDepth 100000
set_option maxHeartbeats 40000000
def gY (a1:List Int):(Int×Int)→Option (cp (Int×Int) (Int))
 |(v1,v2)=>bif ltB v2 ((a1.length:Nat):Int) then(Vj (ix a1 v2) fun x6=>Vj (oi v1 x6) fun r7=>some (.next (r7,WR (v2+1)))) else(some (.done v1))
def qY (a0:Int) (a1:List Int):Option Int:=
 Vj (iter (gY a1) FU (a0,0)) fun(v5:Int)=>some v5
theorem AH {a0:Int} {a1:List Int} {r:Int} (H:qY a0 a1=some r):Fn Tryz.prog 275 [aI a0,aL (a1.map eI)] [.c (.d (.i .i64 r))]:=by
 refine fI Tryz.func275 Tryz.ntmps275 ?_
 obtain⟨v5,Hj,H⟩:=ob H
 refine jB ⟨[(0,tI v5)],[],0⟩ ?_ ?_
 ·refine iT Hj (fun q=>⟨[(0,tI q.1),(7,.v (.c (.d false (.l (a1.map eI))))),(8,tI ((a1.length:Nat):Int)),(9,tI q.2)],[],0⟩) ?_
  rintro⟨v1,v2⟩ o H
  try dsimp only
  refine wI ?_
  refine cC H ?_ ?_<;>intro H
  ·obtain⟨x6,hx6,H⟩:=ob H
   refine nA (xdT (enc:=eI) hx6) ?_
   obtain⟨r7,q7,H⟩:=ob H
   refine nA (ca (hF:=wD q7)) ?_
   cases H
   refine dU ?_
   exact wo
  ·cases H
   refine dT (fun hq=>?_)
   cases hq
   refine wI ?_
   exact wo
 cases H
 exact ah
def o5 (a0:Int) (a1:b8):Option Int:=
 Vj (qY a0 a1.Steps) fun r1=>some r1
theorem B6 {a0:Int} {a1:b8} {r:Int} (H:o5 a0 a1=some r):Fn Tryz.prog 221 [aI a0,.agg (ki a1)] [.c (.d (.i .i64 r))]:=by
 refine fI Tryz.func221 Tryz.ntmps221 ?_
 obtain⟨r1,q1,H⟩:=ob H
 refine nA (ca (hF:=AH q1)) ?_
 cases H
 exact ah
def qm (a0:Int) (a1:Int):Option Int:=
 Vj (jw a1) fun r1=>Vj (o5 a0 r1) fun r2=>some r2
theorem s4 {a0:Int} {a1:Int} {r:Int} (H:qm a0 a1=some r):Fn Tryz.prog 146 [aI a0,aI a1] [.c (.d (.i .i64 r))]:=by
 refine fI Tryz.func146 Tryz.ntmps146 ?_
 obtain⟨r1,q1,H⟩:=ob H
 refine nA (ca (hF:=rX q1)) ?_
 obtain⟨r2,q2,H⟩:=ob H
 refine nA (ca (hF:=B6 q2)) ?_
 cases H
 exact ah
def qW (a0:Int) (a1:bb):Option Bool:=
 Vj (ta a0 a1.cf a1.em a1.aQ) fun r1=>some (eqB a1.gV r1)
theorem Ef {a0:Int} {a1:bb} {r:Bool} (H:qW a0 a1=some r):Fn Tryz.prog 218 [aI a0,.agg (ei a1)] [.c (.d (.b r))]:=by
 refine fI Tryz.func218 Tryz.ntmps218 ?_
 refine dI ?_
 obtain⟨r1,q1,H⟩:=ob H
 refine dA (ca (hF:=Cc q1)) ?_
 refine wI ?_
 cases H
 exact ah
def nk (a0:Int) (a1:ao):Option Bool:=
 Vj (jM a1.aT) fun r1=>Vj (bif r1 then(bif eqB a1.aT.cf 1 then(Vj (qm a0 a1.aO) fun r3=>Vj (qW r3 a1.aT) fun r4=>some r4) else(some false)) else(some false)) fun(v2:Bool)=>some v2
theorem s5 {a0:Int} {a1:ao} {r:Bool} (H:nk a0 a1=some r):Fn Tryz.prog 144 [aI a0,.agg (dq a1)] [.c (.d (.b r))]:=by
 refine fI Tryz.func144 Tryz.ntmps144 ?_
 refine dI ?_
 obtain⟨r1,q1,H⟩:=ob H
 refine dA (ca (hF:=wG q1)) ?_
 obtain⟨v2,Hj,H⟩:=ob H
 refine fF ⟨[(4,tB v2)],[],0⟩ ?_ ?_
 ·have H:=Hj
  refine wI ?_
  refine dC H ?_ ?_<;>intro H
  ·refine dC H ?_ ?_<;>intro H
   ·obtain⟨r3,q3,H⟩:=ob H
    refine dG (ca (hF:=s4 q3)) ?_
    obtain⟨r4,q4,H⟩:=ob H
    refine dG (ca (hF:=Ef q4)) ?_
    refine wI ?_
    cases H
    exact wo
   ·refine wI ?_
    cases H
    exact wo
  ·refine wI ?_
   cases H
   exact wo
 refine wI ?_
 cases H
 exact ah
def ra (a0:Int) (a1:bb):Option (List Int):=
 Vj (oi a0 (WR ((WR (2*a1.em))+a1.cf))) fun r1=>Vj (wC r1 a1.aQ) fun r2=>some r2
theorem s9 {a0:Int} {a1:bb} {r:List Int} (H:ra a0 a1=some r):Fn Tryz.prog 145 [aI a0,.agg (ei a1)] [.c (.own 5 1 (r.map eU8) r.length)]:=by
 refine fI Tryz.func145 Tryz.ntmps145 ?_
 refine dI ?_
 obtain⟨r1,q1,H⟩:=ob H
 refine dA (ca (hF:=wD q1)) ?_
 obtain⟨r2,q2,H⟩:=ob H
 refine dA (ca (hF:=Ih q2)) ?_
 refine wI ?_
 cases H
 exact ah
def ol (a0:Int) (a1:Int) (a2:Int) (a3:ao):Option (ae×Bool):=
 Vj (bif !eqB a3.aa a1 then(some true) else(bif !eqB a3.aO a2 then(some true) else(Vj (nk a0 a3) fun r2=>some (!r2)))) fun(v1:Bool)=>bif v1 then(some (eF,false)) else(Vj (qm a0 a2) fun r3=>Vj (ra r3 a3.aT) fun r4=>some ((⟨a3.aT.em,r4⟩:ae),true))
theorem B8 {a0:Int} {a1:Int} {a2:Int} {a3:ao} {r:ae×Bool} (H:ol a0 a1 a2 a3=some r) (hflag:r.2=true):Fn Tryz.prog 84 [aI a0,aI a1,aI a2,.agg (dq a3)] [.agg (qM [.o] (du r.1)),.c (.d (.b r.2))]:=by
 refine fI Tryz.func84 Tryz.ntmps84 ?_
 obtain⟨v1,Hj,H⟩:=ob H
 refine jR ⟨[(0,tI a0),(2,tI a2),(7,tP 0),(8,tP 1),(26,tB v1)],[(0,.var 76 (kM [.f] (ig a3))),(1,.var 136 (kM [.z] (du eF)))],2⟩ ?_ ?_
 ·have H:=Hj
  refine gC H ?_ ?_<;>intro H
  ·cases H
   exact wo
  ·refine gC H ?_ ?_<;>intro H
   ·cases H
    exact wo
   ·obtain⟨r2,q2,H⟩:=ob H
    refine nG (ca (hF:=s5 q2)) ?_
    cases H
    exact wo
 refine cC H ?_ ?_<;>intro H
 ·cases H
  cases hflag
 ·refine dI ?_
  obtain⟨r3,q3,H⟩:=ob H
  refine dA (ca (hF:=s4 q3)) ?_
  obtain⟨r4,q4,H⟩:=ob H
  refine dA (ca (hF:=s9 q4)) ?_
  refine wI ?_
  cases H
  exact ah
theorem B7 {a0:Int} {a1:Int} {a2:Int} {a3:ao} {r:ae×Bool} (H:ol a0 a1 a2 a3=some r) (hflag:r.2=false):Fn Tryz.prog 84 [aI a0,aI a1,aI a2,.agg (dq a3)] [.agg (qM [.z] (du r.1)),.c (.d (.b r.2))]:=by
 refine fI Tryz.func84 Tryz.ntmps84 ?_
 obtain⟨v1,Hj,H⟩:=ob H
 refine jR ⟨[(0,tI a0),(2,tI a2),(7,tP 0),(8,tP 1),(26,tB v1)],[(0,.var 76 (kM [.f] (ig a3))),(1,.var 136 (kM [.z] (du eF)))],2⟩ ?_ ?_
 ·have H:=Hj
  refine gC H ?_ ?_<;>intro H
  ·cases H
   exact wo
  ·refine gC H ?_ ?_<;>intro H
   ·cases H
    exact wo
   ·obtain⟨r2,q2,H⟩:=ob H
    refine nG (ca (hF:=s5 q2)) ?_
    cases H
    exact wo
 refine cC H ?_ ?_<;>intro H
 ·cases H
  exact ah
 ·refine dI ?_
  obtain⟨r3,q3,H⟩:=ob H
  refine dA (ca (hF:=s4 q3)) ?_
  obtain⟨r4,q4,H⟩:=ob H
  refine dA (ca (hF:=s9 q4)) ?_
  refine wI ?_
  cases H
  cases hflag
def jV (a0:ab) (a1:List bp) (a2:Int):Option (List Int×Bool):=
 Vj (gX a2 0 (WR (((a0.ay.length:Nat):Int)-1))) fun r1=>bif !r1 then(some (([]:List Int),false)) else(Vj (ix a0.ay a2) fun x2=>Vj (bif !x2.cq then(some true) else(Vj (mj a1 x2.bC) fun r4=>bif !r4 then(some true) else(Vj (gX x2.aN 0 (WR (((a0.ai.length:Nat):Int)-1))) fun r5=>some (!r5)))) fun(v3:Bool)=>bif v3 then(some (([]:List Int),false)) else(Vj (ix a0.ai x2.aN) fun x6=>Vj (ol x6.aK x6.aa x2.bC.aO x2.bC) fun r7=>bif r7.2 then(some (r7.1.aQ,true)) else(some (([]:List Int),false))))
theorem wE {a0:ab} {a1:List bp} {a2:Int} {r:List Int×Bool} (H:jV a0 a1 a2=some r):Fn Tryz.prog 37 [.agg (ly a0),aL (a1.map da),aI a2] [.c (.own 5 1 (r.1.map eU8) r.1.length),.c (.d (.b r.2))]:=by
 refine fI Tryz.func37 Tryz.ntmps37 ?_
 obtain⟨r1,q1,H⟩:=ob H
 refine nA (ca (hF:=jW q1)) ?_
 refine cC H ?_ ?_<;>intro H
 ·cases H
  exact ah
 ·obtain⟨x2,hx2,H⟩:=ob H
  refine nA (xdT (enc:=dK) hx2) ?_
  obtain⟨v3,Hj,H⟩:=ob H
  refine jR ⟨[(3,tP 0),(8,tP 1),(44,tB v3)],[(0,.var 34 (kM [.f,.f,.f,.f,.f] (aH a0))),(1,.var 78 (kM [.f] (gD x2)))],2⟩ ?_ ?_
  ·have H:=Hj
   refine gC H ?_ ?_<;>intro H
   ·cases H
    exact wo
   ·obtain⟨r4,q4,H⟩:=ob H
    refine nG (ca (hF:=u5 q4)) ?_
    refine gC H ?_ ?_<;>intro H
    ·cases H
     exact wo
    ·obtain⟨r5,q5,H⟩:=ob H
     refine nG (ca (hF:=jW q5)) ?_
     cases H
     exact wo
  refine cC H ?_ ?_<;>intro H
  ·cases H
   exact ah
  ·obtain⟨x6,hx6,H⟩:=ob H
   refine nA (xdT (enc:=bZ) hx6) ?_
   obtain⟨r7,q7,H⟩:=ob H
   rcases hb:r7.2 with _|_
   ·have H:=bf hb H
    refine rU rfl (ca (hF:=B7 q7 hb)) ?_
    simp only[hb]
    refine wI ?_
    cases H
    exact ah
   ·have H:=bt hb H
    refine rU rfl (ca (hF:=B8 q7 hb)) ?_
    simp only[hb]
    refine wI ?_
    cases H
    exact ah
end Go.AM
