/- A part. -/
import Derived.Test.YtljhooecmjejiaaGreatI0
set_option linter.unusedVariables false
open Option renaming bind→Un
namespace Go.AM
open Go.Proofs
attribute [local irreducible] AWN NS AWO AWR AWC DR cZ eE
set_option maxRecDepth 100000
set_option maxHeartbeats 40000000
def fC (a0:ab) (a1:Int):Option Int:=
 Un (jN a0 a1) fun r1=>bif !r1 then(some (-1)) else(Un (ix a0.aY a1) fun x2=>Un (ix a0.am a1) fun x3=>some (WR (x2.d4+x3.bO.dX)))
theorem mz {a0:ab} {a1:Int} {r:Int} (H:fC a0 a1=some r):Fn Tryz.prog 9 [.agg (gD a0),aI a1] [.c (.d (.i .i64 r))]:=by
 refine fI Tryz.func9 Tryz.ntmps9 ?_
 obtain⟨r1,q1,H⟩:=ob H
 refine nA (ca (hF:=uk q1)) ?_
 refine cC H ?_ ?_<;>intro H
 ·cases H
  exact ah
 ·refine dI ?_
  obtain⟨x2,hx2,H⟩:=ob H
  refine dA (xdT (enc:=da) hx2) ?_
  obtain⟨x3,hx3,H⟩:=ob H
  refine dA (xdT (enc:=bS) hx3) ?_
  refine wI ?_
  cases H
  exact ah
def eD (a0:ab) (a1:Int):Option Bool:=
 Un (lh a0 a1) fun r1=>Un (bif r1 then(Un (ix a0.ai a1) fun x3=>Un (ix a0.am a1) fun x4=>Un (oJ x3.bi.aG x4.ao) fun r5=>some r5) else(some false)) fun(v2:Bool)=>some v2
theorem mM {a0:ab} {a1:Int} {r:Bool} (H:eD a0 a1=some r):Fn Tryz.prog 11 [.agg (gD a0),aI a1] [.c (.d (.b r))]:=by
 refine fI Tryz.func11 Tryz.ntmps11 ?_
 refine dI ?_
 obtain⟨r1,q1,H⟩:=ob H
 refine dA (ca (hF:=vC q1)) ?_
 obtain⟨v2,Hj,H⟩:=ob H
 refine fR ⟨[(4,tB v2)],[],0⟩ ?_ ?_
 ·have H:=Hj
  refine wI ?_
  refine dC H ?_ ?_<;>intro H
  ·obtain⟨x3,hx3,H⟩:=ob H
   refine dG (xdT (enc:=c7) hx3) ?_
   obtain⟨x4,hx4,H⟩:=ob H
   refine dG (xdT (enc:=bS) hx4) ?_
   obtain⟨r5,q5,H⟩:=ob H
   refine dG (ca (hF:=A9 q5)) ?_
   refine wI ?_
   cases H
   exact wo
  ·refine wI ?_
   cases H
   exact wo
 refine wI ?_
 cases H
 exact ah
def gr (a0:ab) (a1:Int):Option Bool:=
 Un (jN a0 a1) fun r1=>bif !r1 then(some false) else(Un (ix a0.am a1) fun x2=>Un (fC a0 a1) fun r3=>Un (eS x2) fun r4=>Un (jg x2 r4) fun r5=>some (eqB r3 r5))
theorem rI {a0:ab} {a1:Int} {r:Bool} (H:gr a0 a1=some r):Fn Tryz.prog 13 [.agg (gD a0),aI a1] [.c (.d (.b r))]:=by
 refine fI Tryz.func13 Tryz.ntmps13 ?_
 obtain⟨r1,q1,H⟩:=ob H
 refine nA (ca (hF:=uk q1)) ?_
 refine cC H ?_ ?_<;>intro H
 ·cases H
  exact ah
 ·obtain⟨x2,hx2,H⟩:=ob H
  refine nA (xdT (enc:=bS) hx2) ?_
  refine dI ?_
  obtain⟨r3,q3,H⟩:=ob H
  refine dA (ca (hF:=mz q3)) ?_
  obtain⟨r4,q4,H⟩:=ob H
  refine dA (ca (hF:=kf q4)) ?_
  obtain⟨r5,q5,H⟩:=ob H
  refine dA (ca (hF:=rp q5)) ?_
  refine wI ?_
  cases H
  exact ah
def eC (a0:ab) (a1:Int):Option Bool:=
 Un (lh a0 a1) fun r1=>Un (bif r1 then(Un (ix a0.am a1) fun x3=>Un (eS x3) fun r4=>Un (ix a0.ai a1) fun x5=>some (leB r4 ((x5.bi.aG.length:Nat):Int))) else(some false)) fun(v2:Bool)=>some v2
theorem my {a0:ab} {a1:Int} {r:Bool} (H:eC a0 a1=some r):Fn Tryz.prog 14 [.agg (gD a0),aI a1] [.c (.d (.b r))]:=by
 refine fI Tryz.func14 Tryz.ntmps14 ?_
 refine dI ?_
 obtain⟨r1,q1,H⟩:=ob H
 refine dA (ca (hF:=vC q1)) ?_
 obtain⟨v2,Hj,H⟩:=ob H
 refine fR ⟨[(4,tB v2)],[],0⟩ ?_ ?_
 ·have H:=Hj
  refine wI ?_
  refine dC H ?_ ?_<;>intro H
  ·obtain⟨x3,hx3,H⟩:=ob H
   refine dG (xdT (enc:=bS) hx3) ?_
   obtain⟨r4,q4,H⟩:=ob H
   refine dG (ca (hF:=kf q4)) ?_
   obtain⟨x5,hx5,H⟩:=ob H
   refine dG (xdT (enc:=c7) hx5) ?_
   refine wI ?_
   cases H
   exact wo
  ·refine wI ?_
   cases H
   exact wo
 refine wI ?_
 cases H
 exact ah
def ki:aM→Option (cB (aM) (aM))
 |v17=>Un (bif ltB 0 ((v17.aD.length:Nat):Int) then(Un (ix v17.aD 0) fun x26=>bif eqB x26.cO v17.bj then(some (ltB ((v17.aG.length:Nat):Int) 24)) else(some false)) else(some false)) fun(v25:Bool)=>bif v25 then(Un (ix v17.aD 0) fun x27=>bif cS 24 (v17.aG++[(⟨x27.aN⟩:bw)]).length then(bif fw v17.aD 1 v17.aD.length then(some (.next (⟨WR (v17.bj+1),v17.aD.drop ((1:Int)).toNat,(v17.aG++[(⟨x27.aN⟩:bw)])⟩:aM))) else none) else none) else(some (.done v17))
end Go.AM
