/- A part. -/
import Derived.Test.YtljhooecmjejiaaGreatS8
import Derived.Test.YtljhooecmjejiaaGreatS14
import Derived.Test.YtljhooecmjejiaaGreatS15
set_option linter.unusedVariables false
open Option renaming bind→Un
namespace Go.AM
open Go.Proofs
attribute [local irreducible] AWN NS AWO AWR AWC DR cZ eE
set_option maxRecDepth 100000
set_option maxHeartbeats 40000000
def iF (a1:gW):(Int×Int)→Option (cB (Int×Int) (Int))
 |(v1,v2)=>bif ltB v2 ((a1.Steps.length:Nat):Int) then(Un (ix a1.Steps v2) fun x6=>Un (lx v1 x6) fun r7=>some (.next (r7,WR (v2+1)))) else(some (.done v1))
def mb (a0:Int) (a1:gW):Option Int:=
 Un (iter (iF a1) FU (a0,0)) fun(v5:Int)=>some v5
theorem uw {a0:Int} {a1:gW} {r:Int} (H:mb a0 a1=some r):Fn Tryz.prog 148 [aI a0,.agg (JT a1)] [.c (.d (.i .i64 r))]:=by
 refine fI Tryz.func148 Tryz.ntmps148 ?_
 obtain⟨v5,Hj,H⟩:=ob H
 refine jB ⟨[(5,tI v5)],[],0⟩ ?_ ?_
 ·refine iT Hj (fun q=>⟨[(3,tP 0),(5,tI q.1),(6,tI q.2)],[(0,.var 97 [.d false (.l (a1.Steps.map eI))])],1⟩) ?_
  rintro⟨v1,v2⟩ o H
  try dsimp only
  refine wI ?_
  refine cC H ?_ ?_<;>intro H
  ·obtain⟨x6,hx6,H⟩:=ob H
   refine nA (xdT (enc:=eI) hx6) ?_
   obtain⟨r7,q7,H⟩:=ob H
   refine nA (ca (hF:=qI q7)) ?_
   cases H
   refine ee ?_
   exact wo
  ·cases H
   refine ed (fun hq=>?_)
   cases hq
   refine wI ?_
   exact wo
 cases H
 exact ah
def Al (a0:Int) (a1:Int) (a2:Int) (a3:List Int):Option bG:=
 Un (lx a0 (WR ((WR (2*a2))+a1))) fun r1=>Un (vZ r1 a3) fun r2=>Un (xF a0 (⟨a1,a2,r2,0⟩:bG)) fun r3=>some (⟨a1,a2,r2,r3⟩:bG)
theorem Hw {a0:Int} {a1:Int} {a2:Int} {a3:List Int} {r:bG} (H:Al a0 a1 a2 a3=some r):Fn Tryz.prog 313 [aI a0,aI a1,aI a2,aL (a3.map eU8)] [.agg (qM [.o] (pU r))]:=by
 refine fI Tryz.func313 Tryz.ntmps313 ?_
 obtain⟨r1,q1,H⟩:=ob H
 refine nA (ca (hF:=qI q1)) ?_
 obtain⟨r2,q2,H⟩:=ob H
 refine nA (ca (hF:=Hu q2)) ?_
 obtain⟨r3,q3,H⟩:=ob H
 refine nA (ca (hF:=Gj q3)) ?_
 cases H
 exact ah
def fP (a0:Int) (a1:Int) (a2:Int):Option cH:=
 Un (cz a2 0 999999) fun r1=>bif !r1 then(some cg) else(Un (jl a0 a1) fun r2=>Un (Bm (WR (a2+r2)) 1000000) fun r3=>Un (d6 a0 [2,a1,a2]) fun r4=>Un (d6 a0 [3,a1]) fun r5=>Un (d6 a0 [4,a1,a2]) fun r6=>Un (Ah 1 r6) fun r7=>some (⟨a1,r3,r4,r5,r7⟩:cH))
theorem iS {a0:Int} {a1:Int} {a2:Int} {r:cH} (H:fP a0 a1 a2=some r):Fn Tryz.prog 314 [aI a0,aI a1,aI a2] [.agg (qM [] (ez r))]:=by
 refine fI Tryz.func314 Tryz.ntmps314 ?_
 obtain⟨r1,q1,H⟩:=ob H
 refine nA (ca (hF:=bK q1)) ?_
 refine cC H ?_ ?_<;>intro H
 ·cases H
  exact ah
 ·obtain⟨r2,q2,H⟩:=ob H
  refine nA (ca (hF:=rA q2)) ?_
  obtain⟨r3,q3,H⟩:=ob H
  refine nA (ca (hF:=uS q3)) ?_
  obtain⟨r4,q4,H⟩:=ob H
  refine nA (ca (hF:=dV q4)) ?_
  obtain⟨r5,q5,H⟩:=ob H
  refine nA (ca (hF:=dV q5)) ?_
  obtain⟨r6,q6,H⟩:=ob H
  refine nA (ca (hF:=dV q6)) ?_
  obtain⟨r7,q7,H⟩:=ob H
  refine nA (ca (hF:=xo q7)) ?_
  cases H
  exact ah
def og (a0:Int) (a1:bG):Option Bool:=
 Un (xF a0 a1) fun r1=>some (eqB a1.im r1)
theorem wi {a0:Int} {a1:bG} {r:Bool} (H:og a0 a1=some r):Fn Tryz.prog 86 [aI a0,.agg (fG a1)] [.c (.d (.b r))]:=by
 refine fI Tryz.func86 Tryz.ntmps86 ?_
 refine dI ?_
 obtain⟨r1,q1,H⟩:=ob H
 refine dA (ca (hF:=Gj q1)) ?_
 refine wI ?_
 cases H
 exact ah
def qV (a0:ab) (a1:Int):Option Bool:=
 Un (ix a0.ai a1) fun x1=>Un (ix a0.am a1) fun x2=>Un (ku x1) fun r3=>Un (bif !r3 then(some true) else(Un (g8 x2) fun r5=>bif !r5 then(some true) else(Un (ix a0.aY a1) fun x6=>Un (fo x6) fun r7=>bif !r7 then(some true) else(bif !(eqB x1.dq.ID.dL x2.bv.ID.dL&&(eqB x1.dq.ID.bM x2.bv.ID.bM&&true)) then(some true) else(some (!eqB x1.dq.eP x2.bv.eP)))))) fun(v4:Bool)=>bif v4 then(some false) else(Un (bif ltB x1.aU ((a0.dW.aX.length:Nat):Int) then(bif ltB x2.aU ((a0.dW.aX.length:Nat):Int) then(bif eqB x2.bO.au a1 then(Un (ix a0.aY a1) fun x9=>Un (eu x9 x2.bO) fun r10=>some r10) else(some false)) else(some false)) else(some false)) fun(v8:Bool)=>some v8)
theorem DX {a0:ab} {a1:Int} {r:Bool} (H:qV a0 a1=some r):Fn Tryz.prog 123 [.agg (gD a0),aI a1] [.c (.d (.b r))]:=by
 refine fI Tryz.func123 Tryz.ntmps123 ?_
 obtain⟨x1,hx1,H⟩:=ob H
 refine nA (xdT (enc:=c7) hx1) ?_
 obtain⟨x2,hx2,H⟩:=ob H
 refine nA (xdT (enc:=bS) hx2) ?_
 obtain⟨r3,q3,H⟩:=ob H
 refine nA (ca (hF:=xm q3)) ?_
 obtain⟨v4,Hj,H⟩:=ob H
 refine jR ⟨[(1,tI a1),(2,tP 0),(5,tP 1),(6,tP 2),(51,tB v4)],[(0,.var 34 (kM [.f,.f,.f,.f,.f] (aO a0))),(1,.var 45 (kM [.f,.f] (df x1))),(2,.var 60 (kM [.f,.f,.f] (cy x2)))],3⟩ ?_ ?_
 ·have H:=Hj
  refine gC H ?_ ?_<;>intro H
  ·cases H
   exact wo
  ·obtain⟨r5,q5,H⟩:=ob H
   refine nG (ca (hF:=oR q5)) ?_
   refine gC H ?_ ?_<;>intro H
   ·cases H
    exact wo
   ·obtain⟨x6,hx6,H⟩:=ob H
    refine nG (xdT (enc:=da) hx6) ?_
    obtain⟨r7,q7,H⟩:=ob H
    refine nG (ca (hF:=iu q7)) ?_
    refine gC H ?_ ?_<;>intro H
    ·cases H
     exact wo
    ·refine gC H ?_ ?_<;>intro H
     ·cases H
      exact wo
     ·cases H
      exact wo
 refine cC H ?_ ?_<;>intro H
 ·cases H
  exact ah
 ·refine dI ?_
  obtain⟨v8,Hj,H⟩:=ob H
  refine fR ⟨[(4,tB v8)],[],0⟩ ?_ ?_
  ·have H:=Hj
   refine wI ?_
   refine dC H ?_ ?_<;>intro H
   ·refine dC H ?_ ?_<;>intro H
    ·refine dC H ?_ ?_<;>intro H
     ·obtain⟨x9,hx9,H⟩:=ob H
      refine dG (xdT (enc:=da) hx9) ?_
      obtain⟨r10,q10,H⟩:=ob H
      refine dG (ca (hF:=gR q10)) ?_
      refine wI ?_
      cases H
      exact wo
     ·refine wI ?_
      cases H
      exact wo
    ·refine wI ?_
     cases H
     exact wo
   ·refine wI ?_
    cases H
    exact wo
  refine wI ?_
  cases H
  exact ah
def hO (a0:Int) (a1:Int) (a2:Int):Option Int:=
 Un (Bm a2 1000000) fun r1=>Un (jl a0 a1) fun r2=>Un (Bm (WR (r1-r2)) 1000000) fun r3=>some r3
theorem o4 {a0:Int} {a1:Int} {a2:Int} {r:Int} (H:hO a0 a1 a2=some r):Fn Tryz.prog 365 [aI a0,aI a1,aI a2] [.c (.d (.i .i64 r))]:=by
 refine fI Tryz.func365 Tryz.ntmps365 ?_
 obtain⟨r1,q1,H⟩:=ob H
 refine nA (ca (hF:=uS q1)) ?_
 obtain⟨r2,q2,H⟩:=ob H
 refine nA (ca (hF:=rA q2)) ?_
 obtain⟨r3,q3,H⟩:=ob H
 refine nA (ca (hF:=uS q3)) ?_
 cases H
 exact ah
def s4 (a0:ag):Option Bool:=
 Un (bif !eqB a0.bg 1 then(some true) else(Un (g8 a0) fun r2=>some (!r2))) fun(v1:Bool)=>some v1
theorem AG {a0:ag} {r:Bool} (H:s4 a0=some r):Fn Tryz.prog 323 [.agg (bS a0)] [.c (.d (.b r))]:=by
 refine fI Tryz.func323 Tryz.ntmps323 ?_
 obtain⟨v1,Hj,H⟩:=ob H
 refine jR ⟨[(2,tB v1)],[],0⟩ ?_ ?_
 ·have H:=Hj
  refine gC H ?_ ?_<;>intro H
  ·cases H
   exact wo
  ·obtain⟨r2,q2,H⟩:=ob H
   refine nG (ca (hF:=oR q2)) ?_
   cases H
   exact wo
 cases H
 exact ah
def iV (a0:bN) (a1:Int):(Int×Int)→Option (cB (Int×Int) (Int))
 |(v1,v2)=>Un (bif ltB v2 a0.fH then(some (ltB v2 6)) else(some false)) fun(v10:Bool)=>bif v10 then(Un (lZ a0 v2) fun r11=>Un (bif r11 then(bif ltB v1 0 then(some true) else(Un (ga v2 a1) fun r13=>Un (ga v1 a1) fun r14=>some (ltB r14 r13))) else(some false)) fun(v12:Bool)=>Un (bif v12 then(some v2) else(some v1)) fun(v15:Int)=>some (.next (v15,WR (v2+1)))) else(some (.done v1))
def jk (a0:bN) (a1:Int):Option Int:=
 Un (iter (iV a0 a1) FU (-1,0)) fun(v9:Int)=>some v9
theorem rz {a0:bN} {a1:Int} {r:Int} (H:jk a0 a1=some r):Fn Tryz.prog 61 [.agg (mQ a0),aI a1] [.c (.d (.i .i64 r))]:=by
 refine fI Tryz.func61 Tryz.ntmps61 ?_
 obtain⟨v9,Hj,H⟩:=ob H
 refine jB ⟨[(5,tI v9)],[],0⟩ ?_ ?_
 ·refine iT Hj (fun q=>⟨[(1,tI a1),(2,tP 0),(5,tI q.1),(6,tI q.2)],[(0,.var 32 (kM [] (dU a0)))],1⟩) ?_
  rintro⟨v1,v2⟩ o H
  try dsimp only
  refine wI ?_
  obtain⟨v10,Hj,H⟩:=ob H
  refine jR ⟨[(1,tI a1),(2,tP 0),(5,tI v1),(6,tI v2),(14,tB v10)],[(0,.var 32 (kM [] (dU a0)))],1⟩ ?_ ?_
  ·have H:=Hj
   refine gC H ?_ ?_<;>intro H
   ·cases H
    exact wo
   ·cases H
    exact wo
  refine cC H ?_ ?_<;>intro H
  ·obtain⟨r11,q11,H⟩:=ob H
   refine nA (ca (hF:=uu q11)) ?_
   obtain⟨v12,Hj,H⟩:=ob H
   refine jR ⟨[(1,tI a1),(2,tP 0),(5,tI v1),(6,tI v2),(32,tB v12)],[(0,.var 32 (kM [] (dU a0)))],1⟩ ?_ ?_
   ·have H:=Hj
    refine gC H ?_ ?_<;>intro H
    ·refine gC H ?_ ?_<;>intro H
     ·cases H
      exact wo
     ·obtain⟨r13,q13,H⟩:=ob H
      refine nG (ca (hF:=mN q13)) ?_
      obtain⟨r14,q14,H⟩:=ob H
      refine nG (ca (hF:=mN q14)) ?_
      cases H
      exact wo
    ·cases H
     exact wo
   obtain⟨v15,Hj,H⟩:=ob H
   refine jA ⟨[(1,tI a1),(2,tP 0),(5,tI v15),(6,tI v2)],[(0,.var 32 (kM [] (dU a0)))],1⟩ ?_ ?_
   ·have H:=Hj
    refine cC H ?_ ?_<;>intro H
    ·cases H
     exact wo
    ·cases H
     exact wo
   cases H
   refine ee ?_
   exact wo
  ·cases H
   refine ed (fun hq=>?_)
   cases hq
   refine wI ?_
   exact wo
 cases H
 exact ah
end Go.AM
