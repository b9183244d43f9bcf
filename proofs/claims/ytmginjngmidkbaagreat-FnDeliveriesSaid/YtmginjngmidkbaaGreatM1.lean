/- A part. -/
import Derived.Test.YtmginjngmidkbaaGreatM0
set_option linter.unusedVariables false
open Option renaming bind->abU
namespace Go.AM
open Go.Proofs
open Tryz
attribute [local irreducible] AWN NS AWO AWR AWC DR ea gL
set_option maxRecDepth 100000
set_option maxHeartbeats 40000000
def rx (a0:ah) (a1:ah):Option Bool:=
 abU (bif !(eqB a0.bA.ID.dN a1.bA.ID.dN&&(eqB a0.bA.ID.bL a1.bA.ID.bL&&(eqB a0.bA.eP a1.bA.eP&&(eqB a0.bA.cV a1.bA.cV&&true)))) then(some true) else(abU (zV a0.gF a1.gF) λr2=>bif !r2 then(some true) else(bif !eqB a0.bj a1.bj then(some true) else(bif !(eqB a0.aC.er a1.aC.er&&(eqB a0.aC.fY a1.aC.fY&&(eqB a0.aC.iM a1.aC.iM&&(eqB a0.aC.vT a1.aC.vT&&(eqB a0.aC.eP a1.aC.eP&&true))))) then(some true) else(bif !eqB a0.bE a1.bE then(some true) else(bif !eqB a0.ag a1.ag then(some true) else(bif !eqB a0.aV a1.aV then(some true) else(bif !eqB a0.aT a1.aT then(some true) else(some (!eqB a0.be a1.be)))))))))) λ(v1:Bool)=>bif v1 then(some false) else(abU (bif eqB a0.d6 a1.d6 then(bif(eqB a0.ge.fJ a1.ge.fJ&&(eqB a0.ge.eQ a1.ge.eQ&&(eqB a0.ge.eU a1.ge.eU&&true))) then(abU (kz a0.aM a1.aM) λr4=>bif r4 then(abU (tL a0.ax a1.ax) λr5=>bif r5 then(bif eqB a0.dP a1.dP then(some (eqB a0.bT.aG a1.bT.aG&&(eqB a0.bT.cG a1.bT.cG&&(eqB a0.bT.ev a1.bT.ev&&true)))) else(some false)) else(some false)) else(some false)) else(some false)) else(some false)) λ(v3:Bool)=>some v3)
theorem GP {a0:ah} {a1:ah} {r:Bool} (H:rx a0 a1=some r):Fn prog 41 [.agg (bU a0),.agg (bU a1)] [.c (.d (.b r))]:=by
 refine fI func41 ntmps41 ?_
 refine aa H λv1 Hj H=>jR ⟨[(2,tP 0),(3,tP 1),(66,tB v1)],[(0,.var 75 (kM [.f,.f,.f] (ct a0))),(1,.var 75 (kM [.f,.f,.f] (ct a1)))],2⟩ ?_ ?_
 .refine gC Hj ?_ ?_<;>intro H
  .exact ai H
  refine aa H λr2 q2 H=>nG (ca (hF:=Mx q2)) ?_
  exact az H
 refine cC H ?_ ?_<;>intro H
 .exact ao H
 refine aa H λv3 Hj H=>jR ⟨[(4,tB v3)],[],0⟩ ?_ ?_
 .refine gC Hj ?_ ?_<;>intro H
  .refine gC H ?_ ?_<;>intro H
   .refine aa H λr4 q4 H=>nG (ca (hF:=xC q4)) ?_
    refine gC H ?_ ?_<;>intro H
    .refine aa H λr5 q5 H=>nG (ca (hF:=Ik q5)) ?_
     exact az H
    exact ai H
   exact ai H
  exact ai H
 exact ao H
def tK (a0:bF) (a1:bF):Option Bool:=
 abU (bif eqB a0.bk a1.bk then(bif booB a0.eH a1.eH then(bif booB a0.dR a1.dR then(bif eqB a0.be a1.be then(bif(eqB a0.bh.a8 a1.bh.a8&&(eqB a0.bh.be a1.bh.be&&(eqB a0.bh.ag a1.bh.ag&&(eqB a0.bh.aT a1.bh.aT&&(eqB a0.bh.bL a1.bh.bL&&(eqB a0.bh.bW.er a1.bh.bW.er&&(eqB a0.bh.bW.fY a1.bh.bW.fY&&(eqB a0.bh.bW.iM a1.bh.bW.iM&&(eqB a0.bh.bW.vT a1.bh.bW.vT&&(eqB a0.bh.bW.eP a1.bh.bW.eP&&(eqB a0.bh.iM a1.bh.iM&&true))))))))))) then(abU (A8 a0.cz a1.cz) λr2=>some r2) else(some false)) else(some false)) else(some false)) else(some false)) else(some false)) λ(v1:Bool)=>some v1
theorem Ij {a0:bF} {a1:bF} {r:Bool} (H:tK a0 a1=some r):Fn prog 43 [.agg (dr a0),.agg (dr a1)] [.c (.d (.b r))]:=by
 refine fI func43 ntmps43 ?_
 refine aa H λv1 Hj H=>jR ⟨[(4,tB v1)],[],0⟩ ?_ ?_
 .refine gC Hj ?_ ?_<;>intro H
  .refine gC H ?_ ?_<;>intro H
   .refine gC H ?_ ?_<;>intro H
    .refine gC H ?_ ?_<;>intro H
     .refine gC H ?_ ?_<;>intro H
      .refine aa H λr2 q2 H=>nG (ca (hF:=Kw q2)) ?_
       exact ai H
      exact ai H
     exact ai H
    exact ai H
   exact ai H
  exact ai H
 exact ao H
def qN (a0:ab) (a1:ab):Int->Option (cq (Int) (Bool))
 |v15=>bif ltB v15 (a0.aK.length:Int) then(abU (ix a0.aK v15) λx16=>abU (ix a1.aK v15) λx17=>abU (tK x16 x17) λr18=>bif !r18 then(dn (some false)) else(some (.next (WR (v15+1))))) else(dn (some true))
def qL (a0:ab) (a1:ab):Int->Option (cq (Int) (Bool))
 |v11=>bif ltB v11 (a0.bG.length:Int) then(abU (ix a0.bG v11) λx12=>abU (ix a1.bG v11) λx13=>abU (rv x12 x13) λr14=>bif !r14 then(dn (some false)) else(some (.next (WR (v11+1))))) else(dn (iter (qN a0 a1) FU 0))
def qK (a0:ab) (a1:ab):Int->Option (cq (Int) (Bool))
 |v7=>bif ltB v7 (a0.aF.length:Int) then(abU (ix a0.aF v7) λx8=>abU (ix a1.aF v7) λx9=>abU (rx x8 x9) λr10=>bif !r10 then(dn (some false)) else(some (.next (WR (v7+1))))) else(dn (iter (qL a0 a1) FU 0))
def qJ (a0:ab) (a1:ab):Int->Option (cq (Int) (Bool))
 |v3=>bif ltB v3 (a0.av.length:Int) then(abU (ix a0.av v3) λx4=>abU (ix a1.av v3) λx5=>abU (tJ x4 x5) λr6=>bif !r6 then(dn (some false)) else(some (.next (WR (v3+1))))) else(dn (iter (qK a0 a1) FU 0))
def oC (a0:ab) (a1:ab):Option Bool:=
 abU (Cb a0.eo a1.eo) λr1=>abU (bif !r1 then(some true) else(bif !eqB (a0.av.length:Int) (a1.av.length:Int) then(some true) else(bif !eqB (a0.aF.length:Int) (a1.aF.length:Int) then(some true) else(bif !eqB (a0.bG.length:Int) (a1.bG.length:Int) then(some true) else(bif !eqB (a0.aK.length:Int) (a1.aK.length:Int) then(some true) else(bif !eqB a0.dv a1.dv then(some true) else(bif !(eqB a0.ef.fo a1.ef.fo&&(eqB a0.ef.fj a1.ef.fj&&true)) then(some true) else(bif !eqB a0.qz a1.qz then(some true) else(some (!eqB a0.jr a1.jr)))))))))) λ(v2:Bool)=>bif v2 then(some false) else(iter (qJ a0 a1) FU 0)
theorem yM {a0:ab} {a1:ab} {r:Bool} (H:oC a0 a1=some r):Fn prog 13 [.agg (iy a0),.agg (iy a1)] [.c (.d (.b r))]:=by
 refine fI func13 ntmps13 ?_
 refine aa H λr1 q1 H=>nA (ca (hF:=On q1)) ?_
 refine aa H λv2 Hj H=>jR ⟨[(2,tP 0),(3,tP 1),(78,tB v2)],[(0,.var 34 (kM [.f,.f,.f,.f,.f] (aU a0))),(1,.var 34 (kM [.f,.f,.f,.f,.f] (aU a1)))],2⟩ ?_ ?_
 .exact az Hj
 refine cC H ?_ ?_<;>intro H
 .exact ao H
 refine iT H (λq=>⟨[(2,tP 0),(3,tP 1),(5,tI q)],[(0,.var 34 (kM [.f,.f,.f,.f,.f] (aU a0))),(1,.var 34 (kM [.f,.f,.f,.f,.f] (aU a1)))],2⟩) ?_
 rintro v3 o H
 refine ad ?_
 refine cC H ?_ ?_<;>intro H
 .refine dI ?_
  refine aa H λx4 hx4 H=>dA (xdT (enc:=cS) hx4) ?_
  refine aa H λx5 hx5 H=>dA (xdT (enc:=cS) hx5) ?_
  refine aa H λr6 q6 H=>dA (ca (hF:=Ii q6)) ?_
  refine wI ?_
  refine cC H ?_ ?_<;>intro H
  .exact aQ H
  exact aN H
 refine aR H λH=>?_
 refine iT H (λq=>⟨[(2,tP 0),(3,tP 1),(6,tI q)],[(0,.var 34 (kM [.f,.f,.f,.f,.f] (aU a0))),(1,.var 34 (kM [.f,.f,.f,.f,.f] (aU a1)))],2⟩) ?_
 rintro v7 o H
 refine ad ?_
 refine cC H ?_ ?_<;>intro H
 .refine dI ?_
  refine aa H λx8 hx8 H=>dA (xdT (enc:=bU) hx8) ?_
  refine aa H λx9 hx9 H=>dA (xdT (enc:=bU) hx9) ?_
  refine aa H λr10 q10 H=>dA (ca (hF:=GP q10)) ?_
  refine wI ?_
  refine cC H ?_ ?_<;>intro H
  .exact aQ H
  exact aN H
 refine aR H λH=>?_
 refine iT H (λq=>⟨[(2,tP 0),(3,tP 1),(7,tI q)],[(0,.var 34 (kM [.f,.f,.f,.f,.f] (aU a0))),(1,.var 34 (kM [.f,.f,.f,.f,.f] (aU a1)))],2⟩) ?_
 rintro v11 o H
 refine ad ?_
 refine cC H ?_ ?_<;>intro H
 .refine dI ?_
  refine aa H λx12 hx12 H=>dA (xdT (enc:=cN) hx12) ?_
  refine aa H λx13 hx13 H=>dA (xdT (enc:=cN) hx13) ?_
  refine aa H λr14 q14 H=>dA (ca (hF:=GN q14)) ?_
  refine wI ?_
  refine cC H ?_ ?_<;>intro H
  .exact aQ H
  exact aN H
 refine aR H λH=>?_
 refine iT H (λq=>⟨[(2,tP 0),(3,tP 1),(8,tI q)],[(0,.var 34 (kM [.f,.f,.f,.f,.f] (aU a0))),(1,.var 34 (kM [.f,.f,.f,.f,.f] (aU a1)))],2⟩) ?_
 rintro v15 o H
 refine ad ?_
 refine cC H ?_ ?_<;>intro H
 .refine dI ?_
  refine aa H λx16 hx16 H=>dA (xdT (enc:=dr) hx16) ?_
  refine aa H λx17 hx17 H=>dA (xdT (enc:=dr) hx17) ?_
  refine aa H λr18 q18 H=>dA (ca (hF:=Ij q18)) ?_
  refine wI ?_
  refine cC H ?_ ?_<;>intro H
  .exact aQ H
  exact aN H
 exact aQ H
end Go.AM
