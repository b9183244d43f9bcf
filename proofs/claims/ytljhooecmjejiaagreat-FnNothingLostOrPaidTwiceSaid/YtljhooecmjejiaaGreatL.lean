/- A part. -/
import Derived.Test.YtljhooecmjejiaaGreatI1
import Derived.Test.YtljhooecmjejiaaGreatM0
import Derived.Test.YtljhooecmjejiaaGreatS27
set_option linter.unusedVariables false
set_option linter.unusedSimpArgs false
open Option renaming bind→Un
namespace Go.AM
open Go.Proofs
attribute [local irreducible] AWN NS AWO AWR AWC DR cZ eE
set_option maxRecDepth 100000
set_option maxHeartbeats 40000000
def fm (r2:ab):Int→Option (cB (Int) (Bool))
 |v3=>bif ltB v3 ((r2.ai.length:Nat):Int) then(Un (ix r2.ai v3) fun x4=>Un (ix r2.am v3) fun x5=>Un (fC r2 v3) fun r6=>Un (bif ltB ((x5.ao.length:Nat):Int) ((x4.bi.aG.length:Nat):Int) then(some true) else(bif fw x5.ao 0 ((x4.bi.aG.length:Nat):Int) then(Un (ix r2.ai v3) fun x8=>Un (lH (x5.ao.take (((x4.bi.aG.length:Nat):Int)).toNat) x8.bi.aG) fun r9=>bif !r9 then(some true) else(Un (eD r2 v3) fun r10=>some (!r10))) else none)) fun(v7:Bool)=>bif v7 then(dn (some false)) else(Un (ix r2.aY v3) fun x11=>Un (bif !eqB r6 (WR (x11.d4+x5.bO.dX)) then(some true) else(Un (jg x5 ((x4.bi.aG.length:Nat):Int)) fun r13=>bif ltB r13 r6 then(some true) else(Un (ix r2.aY v3) fun x14=>bif ltB x14.eL r6 then(some true) else(Un (gr r2 v3) fun r15=>bif !r15 then(some true) else(Un (eC r2 v3) fun r16=>some (!r16)))))) fun(v12:Bool)=>bif v12 then(dn (some false)) else(some (.next (WR (v3+1)))))) else(dn (Un (fC r2 (-1)) fun r17=>Un (bif eqB r17 (-1) then(Un (eD r2 ((r2.ai.length:Nat):Int)) fun r19=>some (!r19)) else(some false)) fun(v18:Bool)=>some v18))
def f4 (a0:List Int):Option Bool:=
 Un (QK a0) fun r1=>bif r1 then(some true) else(Un (m9 a0) fun r2=>iter (fm r2) FU 0)
theorem mU {a0:List Int} {r:Bool} (H:f4 a0=some r):Fn Tryz.prog 3 [aL (a0.map eU8)] [.c (.d (.b r))]:=by
 refine fI Tryz.func3 Tryz.ntmps3 ?_
 obtain⟨r1,q1,H⟩:=ob H
 refine nA (ca (hF:=QL q1)) ?_
 refine cC H ?_ ?_<;>intro H
 ·cases H
  exact ah
 ·obtain⟨r2,q2,H⟩:=ob H
  refine nA (ca (hF:=Ae q2)) ?_
  refine iT H (fun q=>⟨[(3,tP 0),(4,tI q)],[(0,.var 34 (kM [.t,.t,.t,.t,.t] (aO r2)))],1⟩) ?_
  rintro v3 o H
  try dsimp only
  refine wI ?_
  refine cC H ?_ ?_<;>intro H
  ·obtain⟨x4,hx4,H⟩:=ob H
   refine nA (xdT (enc:=c7) hx4) ?_
   obtain⟨x5,hx5,H⟩:=ob H
   refine nA (xdT (enc:=bS) hx5) ?_
   obtain⟨r6,q6,H⟩:=ob H
   refine nA (ca (hF:=mz q6)) ?_
   refine dI ?_
   obtain⟨v7,Hj,H⟩:=ob H
   refine fR ⟨[(3,tP 0),(4,tI v3),(5,tI ((x4.bi.aG.length:Nat):Int)),(6,tP 1),(7,tI r6),(60,tB v7)],[(0,.var 34 (kM [.t,.t,.t,.t,.t] (aO r2))),(1,.var 60 (kM [.t,.t,.t] (cy x5)))],2⟩ ?_ ?_
   ·have H:=Hj
    refine wI ?_
    refine dC H ?_ ?_<;>intro H
    ·refine wI ?_
     cases H
     exact wo
    ·obtain⟨h,H⟩:=rq H
     refine dG (Qo (enc:=cj) h (fun _=>rfl) rfl rfl rfl) ?_
     obtain⟨x8,hx8,H⟩:=ob H
     refine dG (xdT (enc:=c7) hx8) ?_
     obtain⟨r9,q9,H⟩:=ob H
     refine dG (ca (hF:=yo q9)) ?_
     refine dC H ?_ ?_<;>intro H
     ·refine wI ?_
      cases H
      exact wo
     ·obtain⟨r10,q10,H⟩:=ob H
      refine dG (ca (hF:=mM q10)) ?_
      refine wI ?_
      cases H
      exact wo
   refine wI ?_
   refine cC H ?_ ?_<;>intro H
   ·refine wI ?_
    obtain⟨r0,Hd,rfl⟩:=dnE H
    refine lT (fun hq=>?_)
    have H:=Hd.trans (congrArg some hq)
    refine wI ?_
    cases H
    exact ah
   ·refine dI ?_
    obtain⟨x11,hx11,H⟩:=ob H
    refine dA (xdT (enc:=da) hx11) ?_
    obtain⟨v12,Hj,H⟩:=ob H
    refine fR ⟨[(3,tP 0),(4,tI v3),(101,tB v12)],[(0,.var 34 (kM [.t,.t,.t,.t,.t] (aO r2)))],1⟩ ?_ ?_
    ·have H:=Hj
     refine wI ?_
     refine dC H ?_ ?_<;>intro H
     ·refine wI ?_
      cases H
      exact wo
     ·obtain⟨r13,q13,H⟩:=ob H
      refine dG (ca (hF:=rp q13)) ?_
      refine dC H ?_ ?_<;>intro H
      ·refine wI ?_
       cases H
       exact wo
      ·obtain⟨x14,hx14,H⟩:=ob H
       refine dG (xdT (enc:=da) hx14) ?_
       refine dC H ?_ ?_<;>intro H
       ·refine wI ?_
        cases H
        exact wo
       ·obtain⟨r15,q15,H⟩:=ob H
        refine dG (ca (hF:=rI q15)) ?_
        refine dC H ?_ ?_<;>intro H
        ·refine wI ?_
         cases H
         exact wo
        ·obtain⟨r16,q16,H⟩:=ob H
         refine dG (ca (hF:=my q16)) ?_
         refine wI ?_
         cases H
         exact wo
    refine wI ?_
    refine cC H ?_ ?_<;>intro H
    ·refine wI ?_
     obtain⟨r0,Hd,rfl⟩:=dnE H
     refine lT (fun hq=>?_)
     have H:=Hd.trans (congrArg some hq)
     refine wI ?_
     cases H
     exact ah
    ·refine wI ?_
     cases H
     refine ee ?_
     exact wo
  ·obtain⟨r0,Hd,rfl⟩:=dnE H
   refine ed (fun hq=>?_)
   have H:=Hd.trans (congrArg some hq)
   refine wI ?_
   obtain⟨r17,q17,H⟩:=ob H
   refine nA (ca (hF:=mz q17)) ?_
   obtain⟨v18,Hj,H⟩:=ob H
   refine jR ⟨[(2,tB v18)],[],0⟩ ?_ ?_
   ·have H:=Hj
    refine gC H ?_ ?_<;>intro H
    ·obtain⟨r19,q19,H⟩:=ob H
     refine nG (ca (hF:=mM q19)) ?_
     cases H
     exact wo
    ·cases H
     exact wo
   cases H
   exact ah
end Go.AM
