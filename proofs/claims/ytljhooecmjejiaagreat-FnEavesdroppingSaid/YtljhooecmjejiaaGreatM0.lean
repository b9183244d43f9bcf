/- A part. -/
import Derived.Test.YtljhooecmjejiaaGreatG
set_option linter.unusedVariables false
namespace Go.AM
open Go.Proofs
attribute [local irreducible] AWN NS AWO AWR AWC DR cZ ey
set_option maxRecDepth 100000
set_option maxHeartbeats 40000000
def RY (a0:List Int):Option Bool:=
 some (ltB 1048576 ((a0.length:Nat):Int))
theorem R3 {a0:List Int} {r:Bool} (H:RY a0=some r):Fn Tryz.prog 7 [aL (a0.map eU8)] [.c (.d (.b r))]:=by
 refine fI Tryz.func7 Tryz.ntmps7 ?_
 cases H
 exact ah
def p4 (a0:List Int) (a1:List Int):Int→Option (cp (Int) (Bool))
 |v1=>bif ltB v1 ((a0.length:Nat):Int) then(Option.bind (ix a0 v1) fun x2=>Option.bind (ix a1 v1) fun x3=>bif !eqB x2 x3 then(dn (some false)) else(some (.next (WR (v1+1))))) else(dn (some true))
def rf (a0:List Int) (a1:List Int):Option Bool:=
 bif !eqB ((a0.length:Nat):Int) ((a1.length:Nat):Int) then(some false) else(iter (p4 a0 a1) FU 0)
theorem En {a0:List Int} {a1:List Int} {r:Bool} (H:rf a0 a1=some r):Fn Tryz.prog 39 [aL (a0.map eU8),aL (a1.map eU8)] [.c (.d (.b r))]:=by
 refine fI Tryz.func39 Tryz.ntmps39 ?_
 refine cC H ?_ ?_<;>intro H
 ·cases H
  exact ah
 ·refine iT H (fun q=>⟨[(0,.v (.c (.d false (.l (a0.map eU8))))),(1,.v (.c (.d false (.l (a1.map eU8))))),(5,tI q)],[],0⟩) ?_
  rintro v1 o H
  try dsimp only
  refine wI ?_
  refine cC H ?_ ?_<;>intro H
  ·refine dI ?_
   obtain⟨x2,hx2,H⟩:=ob H
   refine dA (xdT (enc:=eU8) hx2) ?_
   obtain⟨x3,hx3,H⟩:=ob H
   refine dA (xdT (enc:=eU8) hx3) ?_
   refine wI ?_
   refine cC H ?_ ?_<;>intro H
   ·obtain⟨r0,Hd,rfl⟩:=dnE H
    refine ks (fun hq=>?_)
    have H:=Hd.trans (congrArg some hq)
    refine wI ?_
    cases H
    exact ah
   ·cases H
    refine dU ?_
    exact wo
  ·obtain⟨r0,Hd,rfl⟩:=dnE H
   refine dT (fun hq=>?_)
   have H:=Hd.trans (congrArg some hq)
   refine wI ?_
   cases H
   exact ah
end Go.AM
