/- A part. -/
import Derived.Test.YtljhooecmjejiaaGreatS15
import Derived.Test.YtljhooecmjejiaaGreatS16
set_option linter.unusedVariables false
open Option renaming bind→Vj
namespace Go.AM
open Go.Proofs
attribute [local irreducible] AWN NS AWO AWR AWC DR cZ ey
set_option maxRecDepth 100000
set_option maxHeartbeats 40000000
def nT (a0:Int) (a1:Int):Option Int:=
 Vj (eJ a1) fun r1=>Vj (mx a0 r1) fun r2=>some r2
theorem tE {a0:Int} {a1:Int} {r:Int} (H:nT a0 a1=some r):Fn Tryz.prog 87 [aI a0,aI a1] [.c (.d (.i .i64 r))]:=by
 refine fI Tryz.func87 Tryz.ntmps87 ?_
 obtain⟨r1,q1,H⟩:=ob H
 refine nA (ca (hF:=mN q1)) ?_
 obtain⟨r2,q2,H⟩:=ob H
 refine nA (ca (hF:=vf q2)) ?_
 cases H
 exact ah
def uA (a0:aE):Option (cO×aE):=
 Vj (vY a0) fun r1=>Vj (bS r1.2 50) fun r2=>Vj (Fh r2.2) fun r3=>Vj (fU r1.1 r2.1 r3.1) fun r4=>Vj (bS r3.2 8) fun r5=>Vj (bif eqB r5.1 0 then(Vj (uz r5.2) fun r16=>some (r16.2,{r4 with gV:=r16.1})) else(Vj (bif eqB r5.1 1 then(Vj (vU r5.2 [WR (r4.gx+1),-1,1000000,WR (r4.gx+1000000)]) fun r24=>some (r24.2,{r4 with gx:=r24.1})) else(Vj (bif eqB r5.1 2 then(some (WR (r4.eQ+1))) else(some r4.eQ)) fun(v25:Int)=>some (r5.2,{r4 with eQ:=v25}))) fun((v22,v23):aE×cO)=>some (v22,v23))) fun((v14,v15):aE×cO)=>some (v15,v14)
theorem Hx {a0:aE} {r:cO×aE} (H:uA a0=some r):FnW Tryz.prog 316 (.var 143 (kM [.f] (bg a0))) [tP 200] (.var 143 (kM [.f] (bg r.2))) [.agg (qM [] (eM r.1))]:=by
 refine fW Tryz.func316 Tryz.ntmps316 ?_
 obtain⟨r1,q1,H⟩:=ob H
 refine sA (cw (o:=200) (Hw q1)) ?_
 obtain⟨r2,q2,H⟩:=ob H
 refine sA (cw (o:=200) (bz q2)) ?_
 obtain⟨r3,q3,H⟩:=ob H
 refine sA (cw (o:=200) (OG q3)) ?_
 obtain⟨r4,q4,H⟩:=ob H
 refine nA (ca (hF:=jb q4)) ?_
 obtain⟨r5,q5,H⟩:=ob H
 refine sA (cw (o:=200) (bz q5)) ?_
 obtain⟨⟨v14,v15⟩,Hj,H⟩:=ob H
 refine jA ⟨[(2,tP 210),(5,tP 211)],[(200,.var 143 (kM [.f] (bg v14))),(210,.var 52 (kM [] (eM cr))),(211,.var 52 (kM [] (eM v15)))],212⟩ ?_ ?_
 ·have H:=Hj
  refine cC H ?_ ?_<;>intro H
  ·obtain⟨r16,q16,H⟩:=ob H
   refine sA (cw (o:=200) (yA q16)) ?_
   cases H
   exact wo
  ·obtain⟨⟨v22,v23⟩,Hj,H⟩:=ob H
   refine jA ⟨[(2,tP 210),(5,tP 211)],[(200,.var 143 (kM [.f] (bg v22))),(210,.var 52 (kM [] (eM cr))),(211,.var 52 (kM [] (eM v23)))],212⟩ ?_ ?_
   ·have H:=Hj
    refine cC H ?_ ?_<;>intro H
    ·obtain⟨r24,q24,H⟩:=ob H
     refine bT (aV (o:=212)) ?_
     refine bT (cI (k:=31)) ?_
     refine sA (cw (o:=200) (xq q24)) ?_
     cases H
     exact wo
    ·obtain⟨v25,Hj,H⟩:=ob H
     refine jA ⟨[(2,tP 210),(5,tP 211)],[(200,.var 143 (kM [.f] (bg r5.2))),(210,.var 52 (kM [] (eM cr))),(211,.var 52 (kM [] (eM {r4 with eQ:=v25})))],212⟩ ?_ ?_
     ·have H:=Hj
      refine cC H ?_ ?_<;>intro H
      ·cases H
       exact wo
      ·cases H
       exact wo
     cases H
     exact wo
   cases H
   exact wo
 cases H
 exact eu
def oE (a0:Int) (a1:aA):Option Int:=
 Vj (ge) fun r1=>Vj (mx a0 r1) fun r2=>Vj (ec r2 [23,a1.aR,a1.aX,a1.aa,a1.aO,a1.bN]) fun r3=>some r3
theorem xi {a0:Int} {a1:aA} {r:Int} (H:oE a0 a1=some r):Fn Tryz.prog 344 [aI a0,.agg (eb a1)] [.c (.d (.i .i64 r))]:=by
 refine fI Tryz.func344 Tryz.ntmps344 ?_
 refine dI ?_
 obtain⟨r1,q1,H⟩:=ob H
 refine dA (ca (hF:=m9 q1)) ?_
 obtain⟨r2,q2,H⟩:=ob H
 refine dA (ca (hF:=vf q2)) ?_
 obtain⟨r3,q3,H⟩:=ob H
 refine dA (ca (hF:=d7 q3)) ?_
 refine wI ?_
 cases H
 exact ah
def rJ (a0:ab) (a1:Int):Option Bool:=
 Vj (ix a0.am a1) fun x1=>Vj (ix a0.ai a1) fun x2=>Vj (kK x1) fun r3=>Vj (bif !r3 then(some true) else(Vj (g9 x2) fun r5=>bif !r5 then(some true) else(Vj (ix a0.bh a1) fun x6=>Vj (fC x6) fun r7=>bif !r7 then(some true) else(bif !(eqB x1.dw.ID.dR x2.bv.ID.dR&&(eqB x1.dw.ID.bN x2.bv.ID.bN&&true)) then(some true) else(some (!eqB x1.dw.eY x2.bv.eY)))))) fun(v4:Bool)=>bif v4 then(some false) else(Vj (bif ltB x1.aX ((a0.dZ.aZ.length:Nat):Int) then(bif ltB x2.aX ((a0.dZ.aZ.length:Nat):Int) then(bif eqB x2.bW.au a1 then(Vj (ix a0.bh a1) fun x9=>Vj (eE x9 x2.bW) fun r10=>some r10) else(some false)) else(some false)) else(some false)) fun(v8:Bool)=>some v8)
theorem Fe {a0:ab} {a1:Int} {r:Bool} (H:rJ a0 a1=some r):Fn Tryz.prog 123 [.agg (ly a0),aI a1] [.c (.d (.b r))]:=by
 refine fI Tryz.func123 Tryz.ntmps123 ?_
 obtain⟨x1,hx1,H⟩:=ob H
 refine nA (xdT (enc:=dE) hx1) ?_
 obtain⟨x2,hx2,H⟩:=ob H
 refine nA (xdT (enc:=bZ) hx2) ?_
 obtain⟨r3,q3,H⟩:=ob H
 refine nA (ca (hF:=yk q3)) ?_
 obtain⟨v4,Hj,H⟩:=ob H
 refine jR ⟨[(1,tI a1),(2,tP 0),(5,tP 1),(6,tP 2),(51,tB v4)],[(0,.var 34 (kM [.f,.f,.f,.f,.f] (aH a0))),(1,.var 45 (kM [.f,.f] (dr x1))),(2,.var 60 (kM [.f,.f,.f] (cF x2)))],3⟩ ?_ ?_
 ·have H:=Hj
  refine gC H ?_ ?_<;>intro H
  ·cases H
   exact wo
  ·obtain⟨r5,q5,H⟩:=ob H
   refine nG (ca (hF:=pb q5)) ?_
   refine gC H ?_ ?_<;>intro H
   ·cases H
    exact wo
   ·obtain⟨x6,hx6,H⟩:=ob H
    refine nG (xdT (enc:=dB) hx6) ?_
    obtain⟨r7,q7,H⟩:=ob H
    refine nG (ca (hF:=iw q7)) ?_
    refine gC H ?_ ?_<;>intro H
    ·cases H
     exact wo
    ·refine gC H ?_ ?_<;>intro H
     ·cases H
      exact wo
     ·cases H
      exact wo
 refine cC H ?_ ?_<;>intro H
 ·cases H
  exact ah
 ·refine dI ?_
  obtain⟨v8,Hj,H⟩:=ob H
  refine fF ⟨[(4,tB v8)],[],0⟩ ?_ ?_
  ·have H:=Hj
   refine wI ?_
   refine dC H ?_ ?_<;>intro H
   ·refine dC H ?_ ?_<;>intro H
    ·refine dC H ?_ ?_<;>intro H
     ·obtain⟨x9,hx9,H⟩:=ob H
      refine dG (xdT (enc:=dB) hx9) ?_
      obtain⟨r10,q10,H⟩:=ob H
      refine dG (ca (hF:=gQ q10)) ?_
      refine wI ?_
      cases H
      exact wo
     ·refine wI ?_
      cases H
      exact wo
    ·refine wI ?_
     cases H
     exact wo
   ·refine wI ?_
    cases H
    exact wo
  refine wI ?_
  cases H
  exact ah
def hP (a0:Int) (a1:Int) (a2:Int):Option Int:=
 Vj (Cp a2 1000000) fun r1=>Vj (jD a0 a1) fun r2=>Vj (Cp (WR (r1-r2)) 1000000) fun r3=>some r3
theorem pw {a0:Int} {a1:Int} {a2:Int} {r:Int} (H:hP a0 a1 a2=some r):Fn Tryz.prog 365 [aI a0,aI a1,aI a2] [.c (.d (.i .i64 r))]:=by
 refine fI Tryz.func365 Tryz.ntmps365 ?_
 obtain⟨r1,q1,H⟩:=ob H
 refine nA (ca (hF:=vL q1)) ?_
 obtain⟨r2,q2,H⟩:=ob H
 refine nA (ca (hF:=sj q2)) ?_
 obtain⟨r3,q3,H⟩:=ob H
 refine nA (ca (hF:=vL q3)) ?_
 cases H
 exact ah
def tO (a0:ag):Option Bool:=
 Vj (bif !eqB a0.bi 1 then(some true) else(Vj (g9 a0) fun r2=>some (!r2))) fun(v1:Bool)=>some v1
theorem BE {a0:ag} {r:Bool} (H:tO a0=some r):Fn Tryz.prog 323 [.agg (bZ a0)] [.c (.d (.b r))]:=by
 refine fI Tryz.func323 Tryz.ntmps323 ?_
 obtain⟨v1,Hj,H⟩:=ob H
 refine jR ⟨[(2,tB v1)],[],0⟩ ?_ ?_
 ·have H:=Hj
  refine gC H ?_ ?_<;>intro H
  ·cases H
   exact wo
  ·obtain⟨r2,q2,H⟩:=ob H
   refine nG (ca (hF:=pb q2)) ?_
   cases H
   exact wo
 cases H
 exact ah
def jd (a0:bP) (a1:Int):(Int×Int)→Option (cp (Int×Int) (Int))
 |(v1,v2)=>Vj (bif ltB v2 a0.fM then(some (ltB v2 6)) else(some false)) fun(v10:Bool)=>bif v10 then(Vj (mu a0 v2) fun r11=>Vj (bif r11 then(bif ltB v1 0 then(some true) else(Vj (gb v2 a1) fun r13=>Vj (gb v1 a1) fun r14=>some (ltB r14 r13))) else(some false)) fun(v12:Bool)=>Vj (bif v12 then(some v2) else(some v1)) fun(v15:Int)=>some (.next (v15,WR (v2+1)))) else(some (.done v1))
def jC (a0:bP) (a1:Int):Option Int:=
 Vj (iter (jd a0 a1) FU (-1,0)) fun(v9:Int)=>some v9
theorem sh {a0:bP} {a1:Int} {r:Int} (H:jC a0 a1=some r):Fn Tryz.prog 61 [.agg (nh a0),aI a1] [.c (.d (.i .i64 r))]:=by
 refine fI Tryz.func61 Tryz.ntmps61 ?_
 obtain⟨v9,Hj,H⟩:=ob H
 refine jB ⟨[(5,tI v9)],[],0⟩ ?_ ?_
 ·refine iT Hj (fun q=>⟨[(1,tI a1),(2,tP 0),(5,tI q.1),(6,tI q.2)],[(0,.var 32 (kM [] (d6 a0)))],1⟩) ?_
  rintro⟨v1,v2⟩ o H
  try dsimp only
  refine wI ?_
  obtain⟨v10,Hj,H⟩:=ob H
  refine jR ⟨[(1,tI a1),(2,tP 0),(5,tI v1),(6,tI v2),(14,tB v10)],[(0,.var 32 (kM [] (d6 a0)))],1⟩ ?_ ?_
  ·have H:=Hj
   refine gC H ?_ ?_<;>intro H
   ·cases H
    exact wo
   ·cases H
    exact wo
  refine cC H ?_ ?_<;>intro H
  ·obtain⟨r11,q11,H⟩:=ob H
   refine nA (ca (hF:=vd q11)) ?_
   obtain⟨v12,Hj,H⟩:=ob H
   refine jR ⟨[(1,tI a1),(2,tP 0),(5,tI v1),(6,tI v2),(32,tB v12)],[(0,.var 32 (kM [] (d6 a0)))],1⟩ ?_ ?_
   ·have H:=Hj
    refine gC H ?_ ?_<;>intro H
    ·refine gC H ?_ ?_<;>intro H
     ·cases H
      exact wo
     ·obtain⟨r13,q13,H⟩:=ob H
      refine nG (ca (hF:=mZ q13)) ?_
      obtain⟨r14,q14,H⟩:=ob H
      refine nG (ca (hF:=mZ q14)) ?_
      cases H
      exact wo
    ·cases H
     exact wo
   obtain⟨v15,Hj,H⟩:=ob H
   refine jA ⟨[(1,tI a1),(2,tP 0),(5,tI v15),(6,tI v2)],[(0,.var 32 (kM [] (d6 a0)))],1⟩ ?_ ?_
   ·have H:=Hj
    refine cC H ?_ ?_<;>intro H
    ·cases H
     exact wo
    ·cases H
     exact wo
   cases H
   refine dU ?_
   exact wo
  ·cases H
   refine dT (fun hq=>?_)
   cases hq
   refine wI ?_
   exact wo
 cases H
 exact ah
end Go.AM
