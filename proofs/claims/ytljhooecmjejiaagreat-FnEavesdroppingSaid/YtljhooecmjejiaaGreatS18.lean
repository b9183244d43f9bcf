/- A part. -/
import Derived.Test.YtljhooecmjejiaaGreatS17
set_option linter.unusedVariables false
open Option renaming bind→Vj
namespace Go.AM
open Go.Proofs
attribute [local irreducible] AWN NS AWO AWR AWC DR cZ ey
set_option maxRecDepth 100000
set_option maxHeartbeats 40000000
def fS (a0:ab):Int→Option (cp (Int) (Bool))
 |v6=>bif ltB v6 ((a0.ay.length:Nat):Int) then(Vj (ix a0.ay v6) fun x7=>Vj (cH x7.aN 0 (WR (((a0.am.length:Nat):Int)-1))) fun r8=>Vj (bif !r8 then(some true) else(Vj (ix a0.ay v6) fun x10=>Vj (cH x10.aX 0 (WR (((a0.dZ.aZ.length:Nat):Int)-1))) fun r11=>some (!r11))) fun(v9:Bool)=>bif v9 then(dn (some false)) else(some (.next (WR (v6+1))))) else(dn (bif leB 0 ((a0.dZ.aZ.length:Nat):Int) then(Vj (cH a0.dt 0 (WR ((kw .i64 1 ((a0.dZ.aZ.length:Nat):Int))-1))) fun r12=>Vj (bif r12 then(Vj (cH a0.oX 0 100000) fun r14=>bif r14 then(some (leB 0 a0.kv)) else(some false)) else(some false)) fun(v13:Bool)=>some v13) else none))
def fR (a0:ab):Int→Option (cp (Int) (Bool))
 |v4=>bif ltB v4 ((a0.am.length:Nat):Int) then(Vj (rJ a0 v4) fun r5=>bif !r5 then(dn (some false)) else(some (.next (WR (v4+1))))) else(dn (iter (fS a0) FU 0))
def jO (a0:ab):Option Bool:=
 Vj (mw a0.dZ) fun r1=>Vj (bif !r1 then(some true) else(Vj (ja a0.dY) fun r3=>bif !r3 then(some true) else(bif eqB a0.dY.fA 0 then(some true) else(bif ltB 4 ((a0.am.length:Nat):Int) then(some true) else(bif !eqB ((a0.ai.length:Nat):Int) ((a0.am.length:Nat):Int) then(some true) else(bif !eqB ((a0.bh.length:Nat):Int) ((a0.am.length:Nat):Int) then(some true) else(some (ltB 200 ((a0.ay.length:Nat):Int))))))))) fun(v2:Bool)=>bif v2 then(some false) else(iter (fR a0) FU 0)
theorem xc {a0:ab} {r:Bool} (H:jO a0=some r):Fn Tryz.prog 72 [.agg (ly a0)] [.c (.d (.b r))]:=by
 refine fI Tryz.func72 Tryz.ntmps72 ?_
 obtain⟨r1,q1,H⟩:=ob H
 refine nA (ca (hF:=ve q1)) ?_
 obtain⟨v2,Hj,H⟩:=ob H
 refine jR ⟨[(1,tP 0),(50,tB v2)],[(0,.var 34 (kM [.f,.f,.f,.f,.f] (aH a0)))],1⟩ ?_ ?_
 ·have H:=Hj
  refine gC H ?_ ?_<;>intro H
  ·cases H
   exact wo
  ·obtain⟨r3,q3,H⟩:=ob H
   refine nG (ca (hF:=oA q3)) ?_
   refine gC H ?_ ?_<;>intro H
   ·cases H
    exact wo
   ·refine gC H ?_ ?_<;>intro H
    ·cases H
     exact wo
    ·refine gC H ?_ ?_<;>intro H
     ·cases H
      exact wo
     ·refine gC H ?_ ?_<;>intro H
      ·cases H
       exact wo
      ·refine gC H ?_ ?_<;>intro H
       ·cases H
        exact wo
       ·cases H
        exact wo
 refine cC H ?_ ?_<;>intro H
 ·cases H
  exact ah
 ·refine iT H (fun q=>⟨[(1,tP 0),(3,tI q)],[(0,.var 34 (kM [.f,.f,.f,.f,.f] (aH a0)))],1⟩) ?_
  rintro v4 o H
  try dsimp only
  refine wI ?_
  refine cC H ?_ ?_<;>intro H
  ·obtain⟨r5,q5,H⟩:=ob H
   refine nA (ca (hF:=Fe q5)) ?_
   refine cC H ?_ ?_<;>intro H
   ·obtain⟨r0,Hd,rfl⟩:=dnE H
    refine ks (fun hq=>?_)
    have H:=Hd.trans (congrArg some hq)
    refine wI ?_
    cases H
    exact ah
   ·cases H
    refine dU ?_
    exact wo
  ·obtain⟨r0,Hd,rfl⟩:=dnE H
   refine dT (fun hq=>?_)
   have H:=Hd.trans (congrArg some hq)
   refine wI ?_
   refine iT H (fun q=>⟨[(1,tP 0),(4,tI q)],[(0,.var 34 (kM [.f,.f,.f,.f,.f] (aH a0)))],1⟩) ?_
   rintro v6 o H
   try dsimp only
   refine wI ?_
   refine cC H ?_ ?_<;>intro H
   ·refine dI ?_
    obtain⟨x7,hx7,H⟩:=ob H
    refine dA (xdT (enc:=dK) hx7) ?_
    obtain⟨r8,q8,H⟩:=ob H
    refine dA (ca (hF:=bL q8)) ?_
    obtain⟨v9,Hj,H⟩:=ob H
    refine fF ⟨[(1,tP 0),(4,tI v6),(95,tB v9)],[(0,.var 34 (kM [.f,.f,.f,.f,.f] (aH a0)))],1⟩ ?_ ?_
    ·have H:=Hj
     refine wI ?_
     refine dC H ?_ ?_<;>intro H
     ·refine wI ?_
      cases H
      exact wo
     ·obtain⟨x10,hx10,H⟩:=ob H
      refine dG (xdT (enc:=dK) hx10) ?_
      obtain⟨r11,q11,H⟩:=ob H
      refine dG (ca (hF:=bL q11)) ?_
      refine wI ?_
      cases H
      exact wo
    refine wI ?_
    refine cC H ?_ ?_<;>intro H
    ·refine wI ?_
     obtain⟨r0,Hd,rfl⟩:=dnE H
     refine ks (fun hq=>?_)
     have H:=Hd.trans (congrArg some hq)
     refine wI ?_
     cases H
     exact ah
    ·refine wI ?_
     cases H
     refine dU ?_
     exact wo
   ·obtain⟨r0,Hd,rfl⟩:=dnE H
    refine dT (fun hq=>?_)
    have H:=Hd.trans (congrArg some hq)
    refine wI ?_
    refine dI ?_
    obtain⟨h,H⟩:=rq H
    refine dA (Ii h rfl rfl rfl rfl) ?_
    obtain⟨r12,q12,H⟩:=ob H
    refine dA (ca (hF:=bL q12)) ?_
    obtain⟨v13,Hj,H⟩:=ob H
    refine fF ⟨[(2,tB v13)],[],0⟩ ?_ ?_
    ·have H:=Hj
     refine wI ?_
     refine dC H ?_ ?_<;>intro H
     ·obtain⟨r14,q14,H⟩:=ob H
      refine dG (ca (hF:=bL q14)) ?_
      refine dC H ?_ ?_<;>intro H
      ·refine wI ?_
       cases H
       exact wo
      ·refine wI ?_
       cases H
       exact wo
     ·refine wI ?_
      cases H
      exact wo
    refine wI ?_
    cases H
    exact ah
def jG (a0:Int) (a1:Int) (a2:cO):Option Int:=
 Vj (hP a0 a2.eQ a2.gx) fun r1=>Vj (ec a0 [2,a2.eQ,r1]) fun r2=>bif !eqB a2.gV r2 then(some 1) else(bif leB r1 a1 then(some 2) else(bif ltB a1 (WR (r1-1000)) then(some 3) else(some 0)))
theorem sq {a0:Int} {a1:Int} {a2:cO} {r:Int} (H:jG a0 a1 a2=some r):Fn Tryz.prog 347 [aI a0,aI a1,.agg (qU a2)] [.c (.d (.i .i64 r))]:=by
 refine fI Tryz.func347 Tryz.ntmps347 ?_
 obtain⟨r1,q1,H⟩:=ob H
 refine nA (ca (hF:=pw q1)) ?_
 refine dI ?_
 obtain⟨r2,q2,H⟩:=ob H
 refine dA (ca (hF:=d7 q2)) ?_
 refine wI ?_
 refine cC H ?_ ?_<;>intro H
 ·cases H
  exact ah
 ·refine cC H ?_ ?_<;>intro H
  ·cases H
   exact ah
  ·refine cC H ?_ ?_<;>intro H
   ·cases H
    exact ah
   ·cases H
    exact ah
def mM (a0:aC) (a1:Int):Option (aC×cO):=
 Vj (dV a0) fun r1=>Vj (bif !r1 then(some true) else(some (eqB a0.cT 999999))) fun(v2:Bool)=>bif v2 then(some (a0,cr)) else(Vj (fU a0.eY a1 (WR (a0.cT+1))) fun r3=>some ({a0 with cT:=WR (a0.cT+1)},r3))
theorem xe {a0:aC} {a1:Int} {r:aC×cO} (H:mM a0 a1=some r):Fn Tryz.prog 370 [.agg (ct a0),aI a1] [.agg (qM [] (jU r.1)),.agg (qM [] (eM r.2))]:=by
 refine fI Tryz.func370 Tryz.ntmps370 ?_
 obtain⟨r1,q1,H⟩:=ob H
 refine nA (ca (hF:=fT q1)) ?_
 obtain⟨v2,Hj,H⟩:=ob H
 refine jR ⟨[(1,tI a1),(2,tP 0),(4,tP 1),(5,tP 2),(14,tB v2)],[(0,.var 47 (kM [] (jU a0))),(1,.var 47 (kM [] (jU oW))),(2,.var 52 (kM [] (eM cr)))],3⟩ ?_ ?_
 ·have H:=Hj
  refine gC H ?_ ?_<;>intro H
  ·cases H
   exact wo
  ·cases H
   exact wo
 refine cC H ?_ ?_<;>intro H
 ·cases H
  exact ah
 ·refine zI (List.range 9) ?_
  obtain⟨r3,q3,H⟩:=ob H
  refine zA (ca (hF:=jb q3)) ?_
  refine wA (spx 100414) ?_
  refine wA (spx 100413) ?_
  cases H
  exact ah
def vP (a0:Int) (a1:Int) (a2:Int) (a3:bb):Option (List Int×Int×Bool):=
 Vj (g8 a3) fun r1=>Vj (bif !r1 then(some true) else(bif !eqB a3.cf a1 then(some true) else(Vj (oF a0 a3) fun r3=>bif !r3 then(some true) else(some (leB a3.em a2))))) fun(v2:Bool)=>bif v2 then(some (([]:List Int),a2,false)) else(Vj (lL a0 (WR ((WR (2*a3.em))+a3.cf))) fun r4=>Vj (xa r4 a3.aQ) fun r5=>some (r5,a3.em,true))
theorem ET {a0:Int} {a1:Int} {a2:Int} {a3:bb} {r:List Int×Int×Bool} (H:vP a0 a1 a2 a3=some r):Fn Tryz.prog 376 [aI a0,aI a1,aI a2,.agg (ei a3)] [.c (.own 5 1 (r.1.map eU8) r.1.length),.c (.d (.i .i64 r.2.1)),.c (.d (.b r.2.2))]:=by
 refine fI Tryz.func376 Tryz.ntmps376 ?_
 obtain⟨r1,q1,H⟩:=ob H
 refine nA (ca (hF:=pa q1)) ?_
 obtain⟨v2,Hj,H⟩:=ob H
 refine jR ⟨[(0,tI a0),(2,tI a2),(7,tP 0),(31,tB v2)],[(0,.var 74 (kM [.f] (qj a3)))],1⟩ ?_ ?_
 ·have H:=Hj
  refine gC H ?_ ?_<;>intro H
  ·cases H
   exact wo
  ·refine gC H ?_ ?_<;>intro H
   ·cases H
    exact wo
   ·obtain⟨r3,q3,H⟩:=ob H
    refine nG (ca (hF:=xk q3)) ?_
    refine gC H ?_ ?_<;>intro H
    ·cases H
     exact wo
    ·cases H
     exact wo
 refine cC H ?_ ?_<;>intro H
 ·cases H
  exact ah
 ·refine dI ?_
  obtain⟨r4,q4,H⟩:=ob H
  refine dA (ca (hF:=rr q4)) ?_
  obtain⟨r5,q5,H⟩:=ob H
  refine dA (ca (hF:=IF q5)) ?_
  refine wI ?_
  cases H
  exact ah
def md (a0:ab) (r1:bP):(Int×List ag)→Option (cp (Int×List ag) (List ag))
 |(v5,v6)=>bif ltB v5 ((v6.length:Nat):Int) then(Vj (jC a0.dY v5) fun r14=>Vj (jC r1 v5) fun r15=>Vj (bif !eqB r14 r15 then(Vj (ix v6 v5) fun x17=>Vj (uq x17) fun r18=>Vj (ix v6 v5) fun x19=>some (v6.set (v5).toNat r18)) else(some v6)) fun(v16:List ag)=>some (.next (WR (v5+1),v16))) else(some (.done v6))
def rL (a0:ab) (a1:Int) (a2:Bool):Option (Bool×ab):=
 Vj (nH a0.dY a1 a2) fun r1=>Vj (cH a1 0 (WR (a0.dY.fM-1))) fun r2=>Vj (bif !r2 then(some true) else(Vj (mu a0.dY a1) fun r4=>bif booB r4 a2 then(some true) else(some (eqB r1.fA 0)))) fun(v3:Bool)=>bif v3 then(some (false,a0)) else(Vj (iter (md a0 r1) FU (0,a0.ai)) fun(v13:List ag)=>some (true,{a0 with ai:=v13,dY:=r1}))
theorem Fg {a0:ab} {a1:Int} {a2:Bool} {r:Bool×ab} (H:rL a0 a1 a2=some r):FnV Tryz.prog 232 (nS a0) [tP 200,tI a1,tB a2] (nS r.2) (.v (.c (.d false (.b r.1)))) []:=by
 refine fV Tryz.func232 Tryz.ntmps232 ?_
 obtain⟨r1,q1,H⟩:=ob H
 refine nA (ca (hF:=Bp q1)) ?_
 obtain⟨r2,q2,H⟩:=ob H
 refine nA (ca (hF:=bL q2)) ?_
 obtain⟨v3,Hj,H⟩:=ob H
 refine jR ⟨[(0,tP 200),(7,tP 210),(40,tB v3)],(nS a0++[(210,.var 32 (kM [] (d6 r1)))]),211⟩ ?_ ?_
 ·have H:=Hj
  refine gC H ?_ ?_<;>intro H
  ·cases H
   exact wo
  ·obtain⟨r4,q4,H⟩:=ob H
   refine nG (ca (hF:=vd q4)) ?_
   refine gC H ?_ ?_<;>intro H
   ·cases H
    exact wo
   ·cases H
    exact wo
 refine cC H ?_ ?_<;>intro H
 ·cases H
  exact bU
 ·obtain⟨v13,Hj,H⟩:=ob H
  refine jB ⟨[],(nS {a0 with ai:=v13,dY:=r1}),210⟩ ?_ ?_
  ·refine iT Hj (fun q=>⟨[(0,tP 200),(7,tP 210),(8,tP 211),(9,tI q.1)],(nS {a0 with ai:=q.2,dY:=r1}++[(210,.var 32 (kM [] (d6 r1))),(211,.var 32 (kM [] (d6 a0.dY)))]),212⟩) ?_
   rintro⟨v5,v6⟩ o H
   try dsimp only
   refine wI ?_
   refine cC H ?_ ?_<;>intro H
   ·refine dI ?_
    obtain⟨r14,q14,H⟩:=ob H
    refine dA (ca (hF:=sh q14)) ?_
    obtain⟨r15,q15,H⟩:=ob H
    refine dA (ca (hF:=sh q15)) ?_
    refine wI ?_
    obtain⟨v16,Hj,H⟩:=ob H
    refine jA ⟨[(0,tP 200),(7,tP 210),(8,tP 211),(9,tI v5)],(nS {a0 with ai:=v16,dY:=r1}++[(210,.var 32 (kM [] (d6 r1))),(211,.var 32 (kM [] (d6 a0.dY)))]),212⟩ ?_ ?_
    ·have H:=Hj
     refine cC H ?_ ?_<;>intro H
     ·refine zI (List.range 15) ?_
      obtain⟨x17,hx17,H⟩:=ob H
      refine zA (mF hx17) ?_
      refine zA (ED (he:=eU _ hx17)) ?_
      obtain⟨r18,q18,H⟩:=ob H
      refine zA (ca (hF:=He q18)) ?_
      obtain⟨x19,hx19,H⟩:=ob H
      refine zA (mF hx19) ?_
      refine zB (an (aV (o:=212)) (an (aV (o:=213)) (an (aV (o:=214)) (an (cI (k:=77)) (iP 191 (hne:=tc (enc:=bZ) hx19)))))) (f8 rfl (soT (enc:=bZ) (a':=r18) hx19)) bO ?_
      cases H
      refine an (c8 191) ?_
      refine an (wB 191 ((v6.set (v5).toNat r18).length)) ?_
      exact wo
     ·cases H
      exact wo
    cases H
    refine dU ?_
    exact wo
   ·cases H
    refine dT (fun hq=>?_)
    cases hq
    refine wI ?_
    exact wo
  cases H
  exact bU
end Go.AM
