/- A part. -/
import Derived.Test.YtljhooecmjejiaaGreatI2
import Derived.Test.YtljhooecmjejiaaGreatM0
import Derived.Test.YtljhooecmjejiaaGreatS29
set_option linter.unusedVariables false
set_option linter.unusedSimpArgs false
open Option renaming bind→Vj
namespace Go.AM
open Go.Proofs
attribute [local irreducible] AWN NS AWO AWR AWC DR cZ ey
set_option maxRecDepth 100000
set_option maxHeartbeats 40000000
def gr (r2:ab×List bp) (v3:Int) (v4:Int) (r5:List Int):Int→Option (cp (Int) (cp (Int×Int) (Bool)))
 |v6=>bif ltB v6 ((r5.length:Nat):Int) then(Vj (ix r5 v6) fun x7=>Vj (bif ltB x7 0 then(some true) else(Vj (ix r5 v6) fun x9=>bif leB ((r2.1.ay.length:Nat):Int) x9 then(some true) else(Vj (ix r5 v6) fun x10=>Vj (ix r2.1.ay x10) fun x11=>bif !x11.cq then(some true) else(Vj (ix r5 v6) fun x12=>Vj (ix r2.1.ay x12) fun x13=>some (!eqB x13.aN v4))))) fun(v8:Bool)=>bif v8 then(dn (dn (some false))) else(some (.next (WR (v6+1))))) else(dn (some (.next (WR (v3+((r5.length:Nat):Int)),WR (v4+1)))))
def mX (r2:ab×List bp):(Int×Int)→Option (cp (Int×Int) (Bool))
 |(v14,v15)=>bif ltB v15 ((r2.1.ay.length:Nat):Int) then(Vj (ix r2.1.ay v15) fun x16=>Vj (bif x16.cq then(Vj (eJ x16.bC.aO) fun r18=>Vj (tv r2.2 x16.bC.aa r18) fun r19=>some r19) else(some false)) fun(v17:Bool)=>Vj (bif v17 then(some (WR (v14-1))) else(some v14)) fun(v20:Int)=>Vj (jV r2.1 r2.2 v15) fun r21=>Vj (ix r2.1.ai x16.aN) fun x22=>Vj (bif v17 then(bif eqB x22.aa x16.bC.aa then(Vj (je x22.aK x16.bC) fun r24=>some (!(booB r21.2 r24))) else(some (!(booB r21.2 false)))) else(some (!(booB r21.2 false)))) fun(v23:Bool)=>bif v23 then(dn (some false)) else(Vj (bif r21.2 then(bif ltB x16.bC.aT.em 1 then(some true) else(bif ltB ((x22.ax.length:Nat):Int) x16.bC.aT.em then(some true) else(Vj (ix x22.ax (WR (x16.bC.aT.em-1))) fun x26=>Vj (rf r21.1 x26.aQ) fun r27=>some (!r27)))) else(some false)) fun(v25:Bool)=>bif v25 then(dn (some false)) else(some (.next (v20,WR (v15+1)))))) else(dn (Vj (jV r2.1 r2.2 ((r2.1.ay.length:Nat):Int)) fun r28=>Vj (bif eqB v14 0 then(bif !r28.2 then(Vj (iY [(⟨0,(⟨[]⟩:b8)⟩:bp)] 0) fun r30=>some r30) else(some false)) else(some false)) fun(v29:Bool)=>some v29))
def jn (r2:ab×List bp):(Int×Int)→Option (cp (Int×Int) (Bool))
 |(v3,v4)=>bif ltB v4 ((r2.1.am.length:Nat):Int) then(Vj (iZ r2.1 r2.2 v4) fun r5=>iter (gr r2 v3 v4 r5) FU 0) else(dn (iter (mX r2) FU (v3,0)))
def lE (a0:List Int):Option Bool:=
 Vj (RY a0) fun r1=>bif r1 then(some true) else(Vj (rv a0) fun r2=>iter (jn r2) FU (0,0))
theorem vB {a0:List Int} {r:Bool} (H:lE a0=some r):Fn Tryz.prog 6 [aL (a0.map eU8)] [.c (.d (.b r))]:=by
 refine fI Tryz.func6 Tryz.ntmps6 ?_
 obtain⟨r1,q1,H⟩:=ob H
 refine nA (ca (hF:=R3 q1)) ?_
 refine cC H ?_ ?_<;>intro H
 ·cases H
  exact ah
 ·obtain⟨r2,q2,H⟩:=ob H
  refine nA (ca (hF:=EO q2)) ?_
  refine iT H (fun q=>⟨[(3,tP 1),(4,.v (.c (.w 0 r2.2.length))),(5,tI q.1),(6,tI q.2)],[(0,sC r2.2),(1,.var 34 (kM [.t,.t,.t,.t,.t] (aH r2.1)))],2⟩) ?_
  rintro⟨v3,v4⟩ o H
  try dsimp only
  refine wI ?_
  refine cC H ?_ ?_<;>intro H
  ·obtain⟨r5,q5,H⟩:=ob H
   refine nA (ca (hF:=vA q5)) ?_
   refine iT H (fun q=>⟨[(3,tP 1),(4,.v (.c (.w 0 r2.2.length))),(5,tI v3),(6,tI v4),(7,.v (.c (.w 2 r5.length))),(8,tI q)],[(0,sC r2.2),(1,.var 34 (kM [.t,.t,.t,.t,.t] (aH r2.1))),(2,w3 r5)],3⟩) ?_
   rintro v6 o H
   try dsimp only
   refine wI ?_
   refine cC H ?_ ?_<;>intro H
   ·refine dI ?_
    obtain⟨x7,hx7,H⟩:=ob H
    refine dA (xwT hx7) ?_
    refine dA (oe (he:=eU _ hx7)) ?_
    obtain⟨v8,Hj,H⟩:=ob H
    refine fF ⟨[(3,tP 1),(4,.v (.c (.w 0 r2.2.length))),(5,tI v3),(6,tI v4),(7,.v (.c (.w 2 r5.length))),(8,tI v6),(81,tB v8)],[(0,sC r2.2),(1,.var 34 (kM [.t,.t,.t,.t,.t] (aH r2.1))),(2,w3 r5)],3⟩ ?_ ?_
    ·have H:=Hj
     refine wI ?_
     refine dC H ?_ ?_<;>intro H
     ·refine wI ?_
      cases H
      exact wo
     ·obtain⟨x9,hx9,H⟩:=ob H
      refine dG (xwT hx9) ?_
      refine dG (oe (he:=eU _ hx9)) ?_
      refine dC H ?_ ?_<;>intro H
      ·refine wI ?_
       cases H
       exact wo
      ·obtain⟨x10,hx10,H⟩:=ob H
       refine dG (xwT hx10) ?_
       refine dG (oe (he:=eU _ hx10)) ?_
       obtain⟨x11,hx11,H⟩:=ob H
       refine dG (xdT (enc:=dK) hx11) ?_
       refine dC H ?_ ?_<;>intro H
       ·refine wI ?_
        cases H
        exact wo
       ·obtain⟨x12,hx12,H⟩:=ob H
        refine dG (xwT hx12) ?_
        refine dG (oe (he:=eU _ hx12)) ?_
        obtain⟨x13,hx13,H⟩:=ob H
        refine dG (xdT (enc:=dK) hx13) ?_
        refine wI ?_
        cases H
        exact wo
    refine wI ?_
    refine cC H ?_ ?_<;>intro H
    ·refine wI ?_
     obtain⟨r0,Hd,rfl⟩:=dnE H
     refine ks (fun hq=>?_)
     have H:=Hd.trans (congrArg some hq)
     refine wI ?_
     obtain⟨r0,Hd,rfl⟩:=dnE H
     refine ks (fun hq=>?_)
     have H:=Hd.trans (congrArg some hq)
     refine wI ?_
     cases H
     exact ah
    ·refine wI ?_
     cases H
     refine dU ?_
     exact wo
   ·obtain⟨r0,Hd,rfl⟩:=dnE H
    refine dT (fun hq=>?_)
    have H:=Hd.trans (congrArg some hq)
    refine wI ?_
    cases H
    refine dU ?_
    exact wo
  ·obtain⟨r0,Hd,rfl⟩:=dnE H
   refine dT (fun hq=>?_)
   have H:=Hd.trans (congrArg some hq)
   refine wI ?_
   refine iT H (fun q=>⟨[(3,tP 1),(4,.v (.c (.w 0 r2.2.length))),(5,tI q.1),(9,tI q.2)],[(0,sC r2.2),(1,.var 34 (kM [.t,.t,.t,.t,.t] (aH r2.1)))],2⟩) ?_
   rintro⟨v14,v15⟩ o H
   try dsimp only
   refine wI ?_
   refine cC H ?_ ?_<;>intro H
   ·obtain⟨x16,hx16,H⟩:=ob H
    refine nA (xdT (enc:=dK) hx16) ?_
    refine dI ?_
    obtain⟨v17,Hj,H⟩:=ob H
    refine fF ⟨[(3,tP 1),(4,.v (.c (.w 0 r2.2.length))),(5,tI v14),(9,tI v15),(10,tP 2),(11,tB v17)],[(0,sC r2.2),(1,.var 34 (kM [.t,.t,.t,.t,.t] (aH r2.1))),(2,.var 78 (kM [.t] (gD x16)))],3⟩ ?_ ?_
    ·have H:=Hj
     refine wI ?_
     refine dC H ?_ ?_<;>intro H
     ·obtain⟨r18,q18,H⟩:=ob H
      refine dG (ca (hF:=mN q18)) ?_
      obtain⟨r19,q19,H⟩:=ob H
      refine dG (ca (hF:=IH q19)) ?_
      refine wI ?_
      cases H
      exact wo
     ·refine wI ?_
      cases H
      exact wo
    refine wI ?_
    obtain⟨v20,Hj,H⟩:=ob H
    refine jA ⟨[(3,tP 1),(4,.v (.c (.w 0 r2.2.length))),(5,tI v20),(9,tI v15),(10,tP 2),(11,tB v17)],[(0,sC r2.2),(1,.var 34 (kM [.t,.t,.t,.t,.t] (aH r2.1))),(2,.var 78 (kM [.t] (gD x16)))],3⟩ ?_ ?_
    ·have H:=Hj
     refine cC H ?_ ?_<;>intro H
     ·cases H
      exact wo
     ·cases H
      exact wo
    obtain⟨r21,q21,H⟩:=ob H
    refine nA (ca (hF:=wE q21)) ?_
    obtain⟨x22,hx22,H⟩:=ob H
    refine nA (xdT (enc:=bZ) hx22) ?_
    obtain⟨v23,Hj,H⟩:=ob H
    refine jR ⟨[(3,tP 1),(4,.v (.c (.w 0 r2.2.length))),(5,tI v20),(9,tI v15),(10,tP 2),(12,.v (.c (.w 3 r21.1.length))),(13,tB r21.2),(14,tP 4),(144,tB v23)],[(0,sC r2.2),(1,.var 34 (kM [.t,.t,.t,.t,.t] (aH r2.1))),(2,.var 78 (kM [.t] (gD x16))),(3,w5 r21.1),(4,.var 60 (kM [.t,.t,.t] (cF x22)))],5⟩ ?_ ?_
    ·have H:=Hj
     refine gC H ?_ ?_<;>intro H
     ·refine gC H ?_ ?_<;>intro H
      ·obtain⟨r24,q24,H⟩:=ob H
       refine nG (ca (hF:=oG q24)) ?_
       cases H
       exact wo
      ·cases H
       exact wo
     ·cases H
      exact wo
    refine cC H ?_ ?_<;>intro H
    ·obtain⟨r0,Hd,rfl⟩:=dnE H
     refine ks (fun hq=>?_)
     have H:=Hd.trans (congrArg some hq)
     refine wI ?_
     cases H
     exact ah
    ·obtain⟨v25,Hj,H⟩:=ob H
     refine jR ⟨[(3,tP 1),(4,.v (.c (.w 0 r2.2.length))),(5,tI v20),(9,tI v15),(172,tB v25)],[(0,sC r2.2),(1,.var 34 (kM [.t,.t,.t,.t,.t] (aH r2.1)))],2⟩ ?_ ?_
     ·have H:=Hj
      refine gC H ?_ ?_<;>intro H
      ·refine gC H ?_ ?_<;>intro H
       ·cases H
        exact wo
       ·refine gC H ?_ ?_<;>intro H
        ·cases H
         exact wo
        ·obtain⟨x26,hx26,H⟩:=ob H
         refine nG (xdT (enc:=dQ) hx26) ?_
         obtain⟨r27,q27,H⟩:=ob H
         refine nG (ca (hF:=En q27)) ?_
         cases H
         exact wo
      ·cases H
       exact wo
     refine cC H ?_ ?_<;>intro H
     ·obtain⟨r0,Hd,rfl⟩:=dnE H
      refine ks (fun hq=>?_)
      have H:=Hd.trans (congrArg some hq)
      refine wI ?_
      cases H
      exact ah
     ·cases H
      refine dU ?_
      exact wo
   ·obtain⟨r0,Hd,rfl⟩:=dnE H
    refine dT (fun hq=>?_)
    have H:=Hd.trans (congrArg some hq)
    refine wI ?_
    obtain⟨r28,q28,H⟩:=ob H
    refine nA (ca (hF:=wE q28)) ?_
    obtain⟨v29,Hj,H⟩:=ob H
    refine jR ⟨[(2,tB v29)],[],0⟩ ?_ ?_
    ·have H:=Hj
     refine gC H ?_ ?_<;>intro H
     ·refine gC H ?_ ?_<;>intro H
      ·obtain⟨r30,q30,H⟩:=ob H
       refine nG (ca (hF:=vx q30)) ?_
       cases H
       exact wo
      ·cases H
       exact wo
     ·cases H
      exact wo
    cases H
    exact ah
end Go.AM
