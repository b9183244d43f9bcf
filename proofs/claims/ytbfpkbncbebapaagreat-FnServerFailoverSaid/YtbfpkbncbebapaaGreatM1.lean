/- A part. -/
import Derived.Test.YtbfpkbncbebapaaGreatM0
set_option linter.unusedVariables false
open Option renaming bind->YL
namespace Go.AM
open Go.Proofs
open Tryz
attribute [local irreducible] AWN NS AWO AWR AWC DR dQ gQ
set_option maxRecDepth 100000
set_option maxHeartbeats 40000000
def rH (a0:aD) (a1:aD):Option Bool:=
 YL (bif(eqB a0.c9.ID.du a1.c9.ID.du&&(eqB a0.c9.ID.bK a1.c9.ID.bK&&(eqB a0.c9.eP a1.c9.eP&&(eqB a0.c9.dM a1.c9.dM&&true)))) then(bif eqB a0.bu a1.bu then(bif eqB a0.bg a1.bg then(bif eqB a0.ag a1.ag then(bif eqB a0.aO a1.aO then(bif eqB a0.a9 a1.a9 then(bif booB a0.de a1.de then(bif eqB a0.f5 a1.f5 then(YL (ou a0.bI a1.bI) λr2=>some r2) else(some false)) else(some false)) else(some false)) else(some false)) else(some false)) else(some false)) else(some false)) else(some false)) λ(v1:Bool)=>some v1
theorem Fa {a0:aD} {a1:aD} {r:Bool} (H:rH a0 a1=some r):Fn prog 51 [.agg (cI a0),.agg (cI a1)] [.c (.d (.b r))]:=by
 refine fI func51 ntmps51 ?_
 refine aa H λv1 Hj H=>jR ⟨[(4,tB v1)],[],0⟩ ?_ ?_
 .refine gC Hj ?_ ?_<;>intro H
  .refine gC H ?_ ?_<;>intro H
   .refine gC H ?_ ?_<;>intro H
    .refine gC H ?_ ?_<;>intro H
     .refine gC H ?_ ?_<;>intro H
      .refine gC H ?_ ?_<;>intro H
       .refine gC H ?_ ?_<;>intro H
        .refine gC H ?_ ?_<;>intro H
         .refine aa H λr2 q2 H=>nG (ca (hF:=Ca q2)) ?_
          exact ai H
         exact ai H
        exact ai H
       exact ai H
      exact ai H
     exact ai H
    exact ai H
   exact ai H
  exact ai H
 exact ao H
def rI (a0:bD) (a1:bD):Option Bool:=
 YL (bif eqB a0.bv a1.bv then(bif booB a0.em a1.em then(bif booB a0.dt a1.dt then(bif eqB a0.bg a1.bg then(bif(eqB a0.aY.aV a1.aY.aV&&(eqB a0.aY.bg a1.aY.bg&&(eqB a0.aY.ag a1.aY.ag&&(eqB a0.aY.a9 a1.aY.a9&&(eqB a0.aY.bK a1.aY.bK&&(eqB a0.aY.bP.fj a1.aY.bP.fj&&(eqB a0.aY.bP.hO a1.aY.bP.hO&&(eqB a0.aY.bP.iZ a1.aY.bP.iZ&&(eqB a0.aY.bP.vp a1.aY.bP.vp&&(eqB a0.aY.bP.eP a1.aY.bP.eP&&(eqB a0.aY.iZ a1.aY.iZ&&true))))))))))) then(YL (yD a0.cr a1.cr) λr2=>some r2) else(some false)) else(some false)) else(some false)) else(some false)) else(some false)) λ(v1:Bool)=>some v1
theorem Fb {a0:bD} {a1:bD} {r:Bool} (H:rI a0 a1=some r):Fn prog 53 [.agg (dv a0),.agg (dv a1)] [.c (.d (.b r))]:=by
 refine fI func53 ntmps53 ?_
 refine aa H λv1 Hj H=>jR ⟨[(4,tB v1)],[],0⟩ ?_ ?_
 .refine gC Hj ?_ ?_<;>intro H
  .refine gC H ?_ ?_<;>intro H
   .refine gC H ?_ ?_<;>intro H
    .refine gC H ?_ ?_<;>intro H
     .refine gC H ?_ ?_<;>intro H
      .refine aa H λr2 q2 H=>nG (ca (hF:=Hr q2)) ?_
       exact ai H
      exact ai H
     exact ai H
    exact ai H
   exact ai H
  exact ai H
 exact ao H
def pc (a0:ab) (a1:ab):Int->Option (cf (Int) (Bool))
 |v15=>bif ltB v15 (a0.aN.length:Int) then(YL (ix a0.aN v15) λx16=>YL (ix a1.aN v15) λx17=>YL (rI x16 x17) λr18=>bif !r18 then(dn (some false)) else(some (.next (WR (v15+1))))) else(dn (some true))
def pb (a0:ab) (a1:ab):Int->Option (cf (Int) (Bool))
 |v11=>bif ltB v11 (a0.bi.length:Int) then(YL (ix a0.bi v11) λx12=>YL (ix a1.bi v11) λx13=>YL (pO x12 x13) λr14=>bif !r14 then(dn (some false)) else(some (.next (WR (v11+1))))) else(dn (iter (pc a0 a1) FU 0))
def pa (a0:ab) (a1:ab):Int->Option (cf (Int) (Bool))
 |v7=>bif ltB v7 (a0.aj.length:Int) then(YL (ix a0.aj v7) λx8=>YL (ix a1.aj v7) λx9=>YL (kC x8 x9) λr10=>bif !r10 then(dn (some false)) else(some (.next (WR (v7+1))))) else(dn (iter (pb a0 a1) FU 0))
def o9 (a0:ab) (a1:ab):Int->Option (cf (Int) (Bool))
 |v3=>bif ltB v3 (a0.an.length:Int) then(YL (ix a0.an v3) λx4=>YL (ix a1.an v3) λx5=>YL (rH x4 x5) λr6=>bif !r6 then(dn (some false)) else(some (.next (WR (v3+1))))) else(dn (iter (pa a0 a1) FU 0))
def pP (a0:ab) (a1:ab):Option Bool:=
 YL (zL a0.d8 a1.d8) λr1=>YL (bif !r1 then(some true) else(bif !eqB (a0.an.length:Int) (a1.an.length:Int) then(some true) else(bif !eqB (a0.aj.length:Int) (a1.aj.length:Int) then(some true) else(bif !eqB (a0.bi.length:Int) (a1.bi.length:Int) then(some true) else(bif !eqB (a0.aN.length:Int) (a1.aN.length:Int) then(some true) else(bif !eqB a0.cZ a1.cZ then(some true) else(bif !(eqB a0.cq.dP a1.cq.dP&&(eqB a0.cq.dm a1.cq.dm&&true)) then(some true) else(bif !eqB a0.oZ a1.oZ then(some true) else(some (!eqB a0.kT a1.kT)))))))))) λ(v2:Bool)=>bif v2 then(some false) else(iter (o9 a0 a1) FU 0)
theorem DH {a0:ab} {a1:ab} {r:Bool} (H:pP a0 a1=some r):Fn prog 14 [.agg (eD a0),.agg (eD a1)] [.c (.d (.b r))]:=by
 refine fI func14 ntmps14 ?_
 refine aa H λr1 q1 H=>nA (ca (hF:=Lf q1)) ?_
 refine aa H λv2 Hj H=>jR ⟨[(2,tP 0),(3,tP 1),(78,tB v2)],[(0,.var 34 (kM [.f,.f,.f,.f,.f] (aJ a0))),(1,.var 34 (kM [.f,.f,.f,.f,.f] (aJ a1)))],2⟩ ?_ ?_
 .refine gC Hj ?_ ?_<;>intro H
  .exact ai H
  refine gC H ?_ ?_<;>intro H
  .exact ai H
  refine gC H ?_ ?_<;>intro H
  .exact ai H
  refine gC H ?_ ?_<;>intro H
  .exact ai H
  refine gC H ?_ ?_<;>intro H
  .exact ai H
  refine gC H ?_ ?_<;>intro H
  .exact ai H
  refine gC H ?_ ?_<;>intro H
  .exact ai H
  refine gC H ?_ ?_<;>intro H
  .exact ai H
  exact ai H
 refine cC H ?_ ?_<;>intro H
 .exact ao H
 refine iT H (λq=>⟨[(2,tP 0),(3,tP 1),(5,tI q)],[(0,.var 34 (kM [.f,.f,.f,.f,.f] (aJ a0))),(1,.var 34 (kM [.f,.f,.f,.f,.f] (aJ a1)))],2⟩) ?_
 rintro v3 o H
 try dsimp only
 refine wI ?_
 refine cC H ?_ ?_<;>intro H
 .refine dI ?_
  refine aa H λx4 hx4 H=>dA (xdT (enc:=cI) hx4) ?_
  refine aa H λx5 hx5 H=>dA (xdT (enc:=cI) hx5) ?_
  refine aa H λr6 q6 H=>dA (ca (hF:=Fa q6)) ?_
  refine wI ?_
  refine cC H ?_ ?_<;>intro H
  .obtain⟨r0,Hd,rfl⟩:=dnE H
   refine f6 (λhq=>?_)
   have H:=Hd.trans (congrArg some hq)
   refine wI ?_
   exact ao H
  cases H
  refine dy ?_
  exact wo
 obtain⟨r0,Hd,rfl⟩:=dnE H
 refine dF (λhq=>?_)
 have H:=Hd.trans (congrArg some hq)
 refine wI ?_
 refine iT H (λq=>⟨[(2,tP 0),(3,tP 1),(6,tI q)],[(0,.var 34 (kM [.f,.f,.f,.f,.f] (aJ a0))),(1,.var 34 (kM [.f,.f,.f,.f,.f] (aJ a1)))],2⟩) ?_
 rintro v7 o H
 try dsimp only
 refine wI ?_
 refine cC H ?_ ?_<;>intro H
 .refine dI ?_
  refine aa H λx8 hx8 H=>dA (xdT (enc:=bB) hx8) ?_
  refine aa H λx9 hx9 H=>dA (xdT (enc:=bB) hx9) ?_
  refine aa H λr10 q10 H=>dA (ca (hF:=qC q10)) ?_
  refine wI ?_
  refine cC H ?_ ?_<;>intro H
  .obtain⟨r0,Hd,rfl⟩:=dnE H
   refine f6 (λhq=>?_)
   have H:=Hd.trans (congrArg some hq)
   refine wI ?_
   exact ao H
  cases H
  refine dy ?_
  exact wo
 obtain⟨r0,Hd,rfl⟩:=dnE H
 refine dF (λhq=>?_)
 have H:=Hd.trans (congrArg some hq)
 refine wI ?_
 refine iT H (λq=>⟨[(2,tP 0),(3,tP 1),(7,tI q)],[(0,.var 34 (kM [.f,.f,.f,.f,.f] (aJ a0))),(1,.var 34 (kM [.f,.f,.f,.f,.f] (aJ a1)))],2⟩) ?_
 rintro v11 o H
 try dsimp only
 refine wI ?_
 refine cC H ?_ ?_<;>intro H
 .refine dI ?_
  refine aa H λx12 hx12 H=>dA (xdT (enc:=cp) hx12) ?_
  refine aa H λx13 hx13 H=>dA (xdT (enc:=cp) hx13) ?_
  refine aa H λr14 q14 H=>dA (ca (hF:=DG q14)) ?_
  refine wI ?_
  refine cC H ?_ ?_<;>intro H
  .obtain⟨r0,Hd,rfl⟩:=dnE H
   refine f6 (λhq=>?_)
   have H:=Hd.trans (congrArg some hq)
   refine wI ?_
   exact ao H
  cases H
  refine dy ?_
  exact wo
 obtain⟨r0,Hd,rfl⟩:=dnE H
 refine dF (λhq=>?_)
 have H:=Hd.trans (congrArg some hq)
 refine wI ?_
 refine iT H (λq=>⟨[(2,tP 0),(3,tP 1),(8,tI q)],[(0,.var 34 (kM [.f,.f,.f,.f,.f] (aJ a0))),(1,.var 34 (kM [.f,.f,.f,.f,.f] (aJ a1)))],2⟩) ?_
 rintro v15 o H
 try dsimp only
 refine wI ?_
 refine cC H ?_ ?_<;>intro H
 .refine dI ?_
  refine aa H λx16 hx16 H=>dA (xdT (enc:=dv) hx16) ?_
  refine aa H λx17 hx17 H=>dA (xdT (enc:=dv) hx17) ?_
  refine aa H λr18 q18 H=>dA (ca (hF:=Fb q18)) ?_
  refine wI ?_
  refine cC H ?_ ?_<;>intro H
  .obtain⟨r0,Hd,rfl⟩:=dnE H
   refine f6 (λhq=>?_)
   have H:=Hd.trans (congrArg some hq)
   refine wI ?_
   exact ao H
  cases H
  refine dy ?_
  exact wo
 obtain⟨r0,Hd,rfl⟩:=dnE H
 refine dF (λhq=>?_)
 have H:=Hd.trans (congrArg some hq)
 refine wI ?_
 exact ao H
end Go.AM
