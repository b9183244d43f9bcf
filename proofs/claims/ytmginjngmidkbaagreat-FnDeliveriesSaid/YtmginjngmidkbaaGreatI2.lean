/- A part. -/
import Derived.Test.YtmginjngmidkbaaGreatI1
set_option linter.unusedVariables false
open Option renaming bind->abU
namespace Go.AM
open Go.Proofs
open Tryz
attribute [local irreducible] AWN NS AWO AWR AWC DR ea gL
set_option maxRecDepth 100000
set_option maxHeartbeats 40000000
variable {r:Bool}
def uI (a0:aS) (a1:Int) (a2:Int):Option Bool:=
 abU (kP a0 a1) λr1=>abU (bif r1 then(abU (ix a0.aX a1) λx3=>abU (gA x3.cr a2) λr4=>some r4) else(some false)) λ(v2:Bool)=>some v2
theorem EK {a0:aS} {a1:Int} {a2:Int} (H:uI a0 a1 a2=some r):Fn prog 104 [.agg (iw a0),aI a1,aI a2] [.c (.d (.b r))]:=by
 refine fI func104 ntmps104 ?_
 refine aa H λr1 q1 H=>nA (ca (hF:=rT q1)) ?_
 refine aa H λv2 Hj H=>jR ⟨[(6,tB v2)],[],0⟩ ?_ ?_
 .refine gC Hj ?_ ?_<;>intro H
  .refine aa H λx3 hx3 H=>nG (xdT (enc:=dy) hx3) ?_
   refine aa H λr4 q4 H=>nG (ca (hF:=sD q4)) ?_
   exact ai H
  exact ai H
 exact ao H
def nY (a0:aS) (v2:Int) (x3:fr):Int->Option (cq (Int) (cq (Int) (Bool)))
 |v7=>bif ltB v7 (x3.cr.length:Int) then(abU (ix x3.cr v7) λx8=>abU (bif eqB x8 v2 then(some true) else(abU (kP a0 x8) λr10=>bif !r10 then(some true) else(abU (uI a0 x8 v2) λr11=>some (!r11)))) λ(v9:Bool)=>bif v9 then(dn (dn (some false))) else(some (.next (WR (v7+1))))) else(dn (some (.next (WR (v2+1)))))
def nX (a0:aS):Int->Option (cq (Int) (Bool))
 |v2=>bif ltB v2 (a0.aX.length:Int) then(abU (ix a0.aX v2) λx3=>abU (b9 x3.fJ 0 2) λr4=>abU (bif !r4 then(some true) else(abU (ox x3.cr) λr6=>some (!r6))) λ(v5:Bool)=>bif v5 then(dn (some false)) else(iter (nY a0 v2 x3) FU 0)) else(dn (some true))
def tA (a0:aS):Option Bool:=
 abU (b9 (a0.aX.length:Int) 1 6) λr1=>bif !r1 then(some false) else(iter (nX a0) FU 0)
theorem H9 {a0:aS} (H:tA a0=some r):Fn prog 44 [.agg (iw a0)] [.c (.d (.b r))]:=by
 refine fI func44 ntmps44 ?_
 refine aa H λr1 q1 H=>nA (ca (hF:=bX q1)) ?_
 refine cC H ?_ ?_<;>intro H
 .exact ao H
 refine iT H (λq=>⟨[(1,tP 0),(13,.v (.c (.d false (.l (a0.aX.map dy))))),(14,tI (a0.aX.length:Int)),(15,tI q)],[(0,.var 26 [.d false (.l (a0.aX.map dy))])],1⟩) ?_
 rintro v2 o H
 refine ad ?_
 refine cC H ?_ ?_<;>intro H
 .refine aa H λx3 hx3 H=>nA (xdT (enc:=dy) hx3) ?_
  refine aa H λr4 q4 H=>nA (ca (hF:=bX q4)) ?_
  refine aa H λv5 Hj H=>jR ⟨[(1,tP 0),(3,tI v2),(4,tP 1),(13,.v (.c (.d false (.l (a0.aX.map dy))))),(14,tI (a0.aX.length:Int)),(15,tI v2),(29,tB v5)],[(0,.var 26 [.d false (.l (a0.aX.map dy))]),(1,.var 147 (kM [.f] (Od x3)))],2⟩ ?_ ?_
  .refine gC Hj ?_ ?_<;>intro H
   .exact ai H
   refine aa H λr6 q6 H=>nG (ca (hF:=yz q6)) ?_
   exact ai H
  refine cC H ?_ ?_<;>intro H
  .exact aQ H
  refine iT H (λq=>⟨[(1,tP 0),(3,tI v2),(13,.v (.c (.d false (.l (a0.aX.map dy))))),(14,tI (a0.aX.length:Int)),(15,tI v2),(31,.v (.c (.d false (.l (x3.cr.map eI))))),(32,tI (x3.cr.length:Int)),(33,tI q)],[(0,.var 26 [.d false (.l (a0.aX.map dy))])],1⟩) ?_
  rintro v7 o H
  refine ad ?_
  refine cC H ?_ ?_<;>intro H
  .refine aa H λx8 hx8 H=>nA (xdT (enc:=eI) hx8) ?_
   refine aa H λv9 Hj H=>jR ⟨[(1,tP 0),(3,tI v2),(13,.v (.c (.d false (.l (a0.aX.map dy))))),(14,tI (a0.aX.length:Int)),(15,tI v2),(31,.v (.c (.d false (.l (x3.cr.map eI))))),(32,tI (x3.cr.length:Int)),(33,tI v7),(52,tB v9)],[(0,.var 26 [.d false (.l (a0.aX.map dy))])],1⟩ ?_ ?_
   .refine gC Hj ?_ ?_<;>intro H
    .exact ai H
    refine aa H λr10 q10 H=>nG (ca (hF:=rT q10)) ?_
    refine gC H ?_ ?_<;>intro H
    .exact ai H
    refine aa H λr11 q11 H=>nG (ca (hF:=EK q11)) ?_
    exact ai H
   refine cC H ?_ ?_<;>intro H
   .refine aR H λH=>?_
    exact aQ H
   exact aN H
  refine aR H λH=>?_
  exact aN H
 exact aQ H
def fR (a0:am) (a1:cX):Option Bool:=
 abU (gX a0) λr1=>abU (bif r1 then(abU (je a1) λr3=>bif r3 then(abU (om a0 a1.aG) λr4=>some (eqB r4 a1.cG)) else(some false)) else(some false)) λ(v2:Bool)=>some v2
theorem wq {a0:am} {a1:cX} (H:fR a0 a1=some r):Fn prog 49 [.agg (cN a0),.agg (pK a1)] [.c (.d (.b r))]:=by
 refine fI func49 ntmps49 ?_
 refine dI ?_
 refine aa H λr1 q1 H=>dA (ca (hF:=tz q1)) ?_
 refine aa H λv2 Hj H=>fA ⟨[(4,tB v2)],[],0⟩ ?_ ?_
 .have H:=Hj
  refine wI ?_
  refine dC H ?_ ?_<;>intro H
  .refine aa H λr3 q3 H=>dG (ca (hF:=mN q3)) ?_
   refine dC H ?_ ?_<;>intro H
   .refine aa H λr4 q4 H=>dG (ca (hF:=Gx q4)) ?_
    refine wI ?_
    exact ai H
   refine wI ?_
   exact ai H
  refine wI ?_
  exact ai H
 refine wI ?_
 exact ao H
def n9 (a0:kZ):Option Bool:=
 abU (gK a0.ID) λr1=>abU (bif r1 then(abU (gJ a0.eP) λr3=>bif r3 then(abU (b9 a0.dm 0 999999) λr4=>some r4) else(some false)) else(some false)) λ(v2:Bool)=>some v2
theorem yl {a0:kZ} (H:n9 a0=some r):Fn prog 164 [.agg (Ge a0)] [.c (.d (.b r))]:=by
 refine fI func164 ntmps164 ?_
 refine aa H λr1 q1 H=>nA (ca (hF:=n8 q1)) ?_
 refine aa H λv2 Hj H=>jR ⟨[(2,tB v2)],[],0⟩ ?_ ?_
 .refine gC Hj ?_ ?_<;>intro H
  .refine aa H λr3 q3 H=>nG (ca (hF:=ij q3)) ?_
   refine gC H ?_ ?_<;>intro H
   .refine aa H λr4 q4 H=>nG (ca (hF:=bX q4)) ?_
    exact ai H
   exact ai H
  exact ai H
 exact ao H
def nW (a0:aJ):Option Bool:=
 abU (n9 a0.df) λr1=>abU (bif !r1 then(some true) else(abU (b9 a0.bj 0 3) λr3=>bif !r3 then(some true) else(abU (b9 a0.be 0 5) λr4=>some (!r4)))) λ(v2:Bool)=>bif v2 then(some false) else(abU (b9 a0.ag 0 999999) λr5=>abU (bif !r5 then(some true) else(abU (b9 a0.aT 0 999999) λr7=>bif !r7 then(some true) else(abU (b9 a0.aV 0 2147483646) λr8=>some (!r8)))) λ(v6:Bool)=>bif v6 then(some false) else(abU (bif eqB a0.bj 2 then(abU (gJ a0.aV) λr10=>some (!r10)) else(bif eqB a0.bj 3 then(abU (gJ a0.aV) λr11=>some (!r11)) else(some false))) λ(v9:Bool)=>bif v9 then(some false) else(abU (b9 a0.eU 0 3) λr12=>abU (bif r12 then(abU (ju a0.bV) λr14=>some r14) else(some false)) λ(v13:Bool)=>some v13)))
theorem Dl {a0:aJ} (H:nW a0=some r):Fn prog 105 [.agg (cS a0)] [.c (.d (.b r))]:=by
 refine fI func105 ntmps105 ?_
 refine aa H λr1 q1 H=>nA (ca (hF:=yl q1)) ?_
 refine aa H λv2 Hj H=>jR ⟨[(1,tP 0),(18,tB v2)],[(0,.var 93 (kM [.f,.f] (dt a0)))],1⟩ ?_ ?_
 .refine gC Hj ?_ ?_<;>intro H
  .exact ai H
  refine aa H λr3 q3 H=>nG (ca (hF:=bX q3)) ?_
  refine gC H ?_ ?_<;>intro H
  .exact ai H
  refine aa H λr4 q4 H=>nG (ca (hF:=bX q4)) ?_
  exact ai H
 refine cC H ?_ ?_<;>intro H
 .exact ao H
 refine aa H λr5 q5 H=>nA (ca (hF:=bX q5)) ?_
 refine aa H λv6 Hj H=>jR ⟨[(1,tP 0),(34,tB v6)],[(0,.var 93 (kM [.f,.f] (dt a0)))],1⟩ ?_ ?_
 .refine gC Hj ?_ ?_<;>intro H
  .exact ai H
  refine aa H λr7 q7 H=>nG (ca (hF:=bX q7)) ?_
  refine gC H ?_ ?_<;>intro H
  .exact ai H
  refine aa H λr8 q8 H=>nG (ca (hF:=bX q8)) ?_
  exact ai H
 refine cC H ?_ ?_<;>intro H
 .exact ao H
 refine aa H λv9 Hj H=>jR ⟨[(1,tP 0),(48,tB v9)],[(0,.var 93 (kM [.f,.f] (dt a0)))],1⟩ ?_ ?_
 .refine gC Hj ?_ ?_<;>intro H
  .refine aa H λr10 q10 H=>nG (ca (hF:=ij q10)) ?_
   exact ai H
  refine gC H ?_ ?_<;>intro H
  .refine aa H λr11 q11 H=>nG (ca (hF:=ij q11)) ?_
   exact ai H
  exact ai H
 refine cC H ?_ ?_<;>intro H
 .exact ao H
 refine aa H λr12 q12 H=>nA (ca (hF:=bX q12)) ?_
 refine aa H λv13 Hj H=>jR ⟨[(2,tB v13)],[],0⟩ ?_ ?_
 .refine gC Hj ?_ ?_<;>intro H
  .refine aa H λr14 q14 H=>nG (ca (hF:=sF q14)) ?_
   exact ai H
  exact ai H
 exact ao H
def fH (a0:aP):Option Bool:=
 abU (gK a0.ID) λr1=>abU (bif r1 then(abU (gJ a0.eP) λr3=>bif r3 then(abU (b9 a0.cV 0 999999) λr4=>some r4) else(some false)) else(some false)) λ(v2:Bool)=>some v2
theorem lh {a0:aP} (H:fH a0=some r):Fn prog 167 [.agg (cQ a0)] [.c (.d (.b r))]:=by
 refine fI func167 ntmps167 ?_
 refine aa H λr1 q1 H=>nA (ca (hF:=n8 q1)) ?_
 refine aa H λv2 Hj H=>jR ⟨[(2,tB v2)],[],0⟩ ?_ ?_
 .refine gC Hj ?_ ?_<;>intro H
  .refine aa H λr3 q3 H=>nG (ca (hF:=ij q3)) ?_
   refine gC H ?_ ?_<;>intro H
   .refine aa H λr4 q4 H=>nG (ca (hF:=bX q4)) ?_
    exact ai H
   exact ai H
  exact ai H
 exact ao H
def gp (a0:ah):Int->Option (cq (Int) (Bool))
 |v23=>bif ltB v23 (a0.ax.aw.length:Int) then(abU (ix a0.ax.aw v23) λx24=>abU (ix a0.aM (WR (x24.cV-1))) λx25=>abU (yk x24.bg x25.bg) λr26=>bif !r26 then(dn (some false)) else(some (.next (WR (v23+1))))) else(dn (abU (iW a0) λr27=>abU (ka a0.bT) λr28=>some (leB r27 r28)))
def iP (a0:ah):Option Bool:=
 abU (fH a0.bA) λr1=>abU (bif !r1 then(some true) else(abU (iV a0.gF) λr3=>bif !r3 then(some true) else(abU (n0 a0.ge) λr4=>bif !r4 then(some true) else(abU (lf a0.ax) λr5=>bif !r5 then(some true) else(abU (je a0.bT) λr6=>some (!r6)))))) λ(v2:Bool)=>bif v2 then(some false) else(abU (bif !eqB a0.bj 0 then(some (!eqB a0.bj 1)) else(some false)) λ(v7:Bool)=>bif v7 then(some false) else(abU (bif eqB a0.bj 1 then(abU (gJ a0.aV) λr9=>bif !r9 then(some true) else(bif ltB 0 a0.bE then(abU (gJ a0.aC.eP) λr10=>some (!r10)) else(some false))) else(bif ltB 0 a0.bE then(abU (gJ a0.aC.eP) λr11=>some (!r11)) else(some false))) λ(v8:Bool)=>bif v8 then(some false) else(abU (b9 a0.bE 0 999999) λr12=>abU (bif !r12 then(some true) else(abU (b9 a0.ag 0 999999) λr14=>bif !r14 then(some true) else(abU (b9 a0.aT 0 999999) λr15=>bif !r15 then(some true) else(abU (b9 a0.aV 0 2147483646) λr16=>some (!r16))))) λ(v13:Bool)=>bif v13 then(some false) else(abU (b9 a0.be 0 5) λr17=>abU (bif !r17 then(some true) else(abU (b9 a0.d6 0 5) λr19=>bif !r19 then(some true) else(abU (b9 a0.dP 0 3) λr20=>some (!r20)))) λ(v18:Bool)=>bif v18 then(some false) else(abU (bif ltB 24 (a0.aM.length:Int) then(some true) else(abU (tH a0.aM) λr22=>bif !r22 then(some true) else(some (ltB (WR ((a0.aM.length:Int)+1)) a0.ax.bB)))) λ(v21:Bool)=>bif v21 then(some false) else(iter (gp a0) FU 0))))))
theorem B0 {a0:ah} (H:iP a0=some r):Fn prog 106 [.agg (bU a0)] [.c (.d (.b r))]:=by
 refine fI func106 ntmps106 ?_
 refine aa H λr1 q1 H=>nA (ca (hF:=lh q1)) ?_
 refine aa H λv2 Hj H=>jR ⟨[(1,tP 0),(32,tB v2)],[(0,.var 75 (kM [.f,.f,.f] (ct a0)))],1⟩ ?_ ?_
 .refine gC Hj ?_ ?_<;>intro H
  .exact ai H
  refine aa H λr3 q3 H=>nG (ca (hF:=wl q3)) ?_
  refine gC H ?_ ?_<;>intro H
  .exact ai H
  refine aa H λr4 q4 H=>nG (ca (hF:=Dm q4)) ?_
  refine gC H ?_ ?_<;>intro H
  .exact ai H
  refine aa H λr5 q5 H=>nG (ca (hF:=Dn q5)) ?_
  refine gC H ?_ ?_<;>intro H
  .exact ai H
  refine aa H λr6 q6 H=>nG (ca (hF:=mN q6)) ?_
  exact ai H
 refine cC H ?_ ?_<;>intro H
 .exact ao H
 refine aa H λv7 Hj H=>jR ⟨[(1,tP 0),(40,tB v7)],[(0,.var 75 (kM [.f,.f,.f] (ct a0)))],1⟩ ?_ ?_
 .exact az Hj
 refine cC H ?_ ?_<;>intro H
 .exact ao H
 refine aa H λv8 Hj H=>jR ⟨[(1,tP 0),(61,tB v8)],[(0,.var 75 (kM [.f,.f,.f] (ct a0)))],1⟩ ?_ ?_
 .refine gC Hj ?_ ?_<;>intro H
  .refine aa H λr9 q9 H=>nG (ca (hF:=ij q9)) ?_
   refine gC H ?_ ?_<;>intro H
   .exact ai H
   refine gC H ?_ ?_<;>intro H
   .refine aa H λr10 q10 H=>nG (ca (hF:=ij q10)) ?_
    exact ai H
   exact ai H
  refine gC H ?_ ?_<;>intro H
  .refine aa H λr11 q11 H=>nG (ca (hF:=ij q11)) ?_
   exact ai H
  exact ai H
 refine cC H ?_ ?_<;>intro H
 .exact ao H
 refine aa H λr12 q12 H=>nA (ca (hF:=bX q12)) ?_
 refine aa H λv13 Hj H=>jR ⟨[(1,tP 0),(83,tB v13)],[(0,.var 75 (kM [.f,.f,.f] (ct a0)))],1⟩ ?_ ?_
 .refine gC Hj ?_ ?_<;>intro H
  .exact ai H
  refine aa H λr14 q14 H=>nG (ca (hF:=bX q14)) ?_
  refine gC H ?_ ?_<;>intro H
  .exact ai H
  refine aa H λr15 q15 H=>nG (ca (hF:=bX q15)) ?_
  refine gC H ?_ ?_<;>intro H
  .exact ai H
  refine aa H λr16 q16 H=>nG (ca (hF:=bX q16)) ?_
  exact ai H
 refine cC H ?_ ?_<;>intro H
 .exact ao H
 refine aa H λr17 q17 H=>nA (ca (hF:=bX q17)) ?_
 refine aa H λv18 Hj H=>jR ⟨[(1,tP 0),(99,tB v18)],[(0,.var 75 (kM [.f,.f,.f] (ct a0)))],1⟩ ?_ ?_
 .refine gC Hj ?_ ?_<;>intro H
  .exact ai H
  refine aa H λr19 q19 H=>nG (ca (hF:=bX q19)) ?_
  refine gC H ?_ ?_<;>intro H
  .exact ai H
  refine aa H λr20 q20 H=>nG (ca (hF:=bX q20)) ?_
  exact ai H
 refine cC H ?_ ?_<;>intro H
 .exact ao H
 refine aa H λv21 Hj H=>jR ⟨[(1,tP 0),(119,tB v21)],[(0,.var 75 (kM [.f,.f,.f] (ct a0)))],1⟩ ?_ ?_
 .refine gC Hj ?_ ?_<;>intro H
  .exact ai H
  refine aa H λr22 q22 H=>nG (ca (hF:=Ay q22)) ?_
  exact az H
 refine cC H ?_ ?_<;>intro H
 .exact ao H
 refine iT H (λq=>⟨[(1,tP 0),(122,.v (.c (.d false (.l (a0.ax.aw.map an))))),(123,tI (a0.ax.aw.length:Int)),(124,tI q)],[(0,.var 75 (kM [.f,.f,.f] (ct a0)))],1⟩) ?_
 rintro v23 o H
 refine ad ?_
 refine cC H ?_ ?_<;>intro H
 .refine aa H λx24 hx24 H=>nA (xdT (enc:=an) hx24) ?_
  refine dI ?_
  refine aa H λx25 hx25 H=>dA (xdT (enc:=da) hx25) ?_
  refine aa H λr26 q26 H=>dA (ca (hF:=H8 q26)) ?_
  refine wI ?_
  refine cC H ?_ ?_<;>intro H
  .exact aQ H
  exact aN H
 refine aR H λH=>?_
 refine dI ?_
 refine aa H λr27 q27 H=>dA (ca (hF:=Ai q27)) ?_
 refine aa H λr28 q28 H=>dA (ca (hF:=B3 q28)) ?_
 refine wI ?_
 exact ao H
def mw (a0:aO):Option aO:=
 abU (kx a0.aC) λr1=>abU (mu a0.bi) λr2=>some (⟨a0.bB,r1,r2⟩:aO)
theorem xA {a0:aO} {r:aO} (H:mw a0=some r):Fn prog 138 [.agg (fK a0)] [.agg (qM [.o,.o] (bH r))]:=by
 refine fI func138 ntmps138 ?_
 refine zI (List.range 10) ?_
 refine aa H λr1 q1 H=>zA (ca (hF:=qH q1)) ?_
 refine aa H λr2 q2 H=>zA (ca (hF:=xz q2)) ?_
 refine wA (spx 100490) ?_
 exact ao H
def lr (a0:aY):Option aY:=
 abU (kx a0.aw) λr1=>some (⟨a0.bB,r1⟩:aY)
theorem Ax {a0:aY} {r:aY} (H:lr a0=some r):Fn prog 141 [.agg (gz a0)] [.agg (qM [.o] (dE r))]:=by
 refine fI func141 ntmps141 ?_
 refine zI (List.range 7) ?_
 refine aa H λr1 q1 H=>zA (ca (hF:=qH q1)) ?_
 refine wA (spx 100492) ?_
 exact ao H
def wz (a0:aA):Option aA:=
 abU (rr a0.bz) λr1=>some {a0 with bz:=r1}
theorem Kl {a0:aA} {r:aA} (H:wz a0=some r):Fn prog 142 [.agg (dH a0)] [.agg (qM [.o] (jd r))]:=by
 refine fI func142 ntmps142 ?_
 refine aa H λr1 q1 H=>nA (ca (hF:=GB q1)) ?_
 exact ao H
def gr (a0:List am):(Int×List am)->Option (cq (Int×List am) (List am))
 |(v1,v2)=>bif ltB v1 (a0.length:Int) then(abU (ix a0 v1) λx7=>abU (fk x7) λr8=>abU (ix v2 v1) λx9=>some (.next (WR (v1+1),(v2.set (v1).toNat r8)))) else(some (.done v2))
def fx (a0:List am):Option (List am):=
 bif qk 48 (a0.length:Int) (a0.length:Int) then(abU (iter (gr a0) FU (0,(List.replicate ((a0.length:Int)).toNat lW))) λ(v6:List am)=>some v6) else none
theorem lp {a0:List am} {r:List am} (H:fx a0=some r):FnV prog 87 [] [.v (.c (.d false (.l (a0.map cN)))),.v (.c (.fn 50))] [] (.v (.c (.w 210 r.length))) [(210,w57 r)]:=by
 refine fV func87 ntmps87 ?_
 obtain⟨h,H⟩:=rq H
 refine nA (mkT (enc:=cN) (za:=lW) h (by rfl)) ?_
 refine aa H λv6 Hj H=>jB ⟨[(5,.v (.c (.w 210 v6.length)))],[(210,w57 v6)],211⟩ ?_ ?_
 .refine iT Hj (λq=>⟨[(1,.v (.c (.fn 50))),(5,.v (.c (.w 210 q.2.length))),(11,.v (.c (.d false (.l (a0.map cN))))),(12,tI (a0.length:Int)),(13,tI q.1)],[(210,w57 q.2)],211⟩) ?_
  rintro⟨v1,v2⟩ o H
  refine ad ?_
  refine cC H ?_ ?_<;>intro H
  .refine aa H λx7 hx7 H=>nA (xdT (enc:=cN) hx7) ?_
   refine aa H λr8 q8 H=>nA (Qn rfl (ca (hF:=GA q8))) ?_
   refine aa H λx9 hx9 H=>nA (xwT hx9) ?_
   refine bQ (bb (o:=212)) ?_
   refine bQ (b7 (k:=22)) ?_
   refine sA (soT (enc:=cN) (a':=r8) hx9) ?_
   exact aN H
  exact aE H
 cases H
 exact cd
def vj (a0:ab) (a1:Int):Option Bool:=
 abU (kP a0.eo a1) λr1=>abU (bif r1 then(bif ltB a1 6 then(bif leB 0 a1 then(some (eqB (AT .i64 (FQ .i64 a0.dv a1) 1) 0)) else none) else(some false)) else(some false)) λ(v2:Bool)=>some v2
theorem Mi {a0:ab} {a1:Int} (H:vj a0 a1=some r):Fn prog 72 [.agg (iy a0),aI a1] [.c (.d (.b r))]:=by
 refine fI func72 ntmps72 ?_
 refine aa H λr1 q1 H=>nA (ca (hF:=rT q1)) ?_
 refine aa H λv2 Hj H=>jR ⟨[(4,tB v2)],[],0⟩ ?_ ?_
 .refine gC Hj ?_ ?_<;>intro H
  .refine gC H ?_ ?_<;>intro H
   .obtain⟨h,H⟩:=rq H
    refine nG (Ig h rfl rfl rfl rfl) ?_
    exact ai H
   exact ai H
  exact ai H
 exact ao H
def lO (a0:Int) (a1:Int):Option Int:=
 abU (Rs a1 2147483647) λr1=>some (Int.tmod (WR ((WR ((WR (a0*1000003))+r1))+13)) 2147483647)
theorem yy {a0:Int} {a1:Int} {r:Int} (H:lO a0 a1=some r):Fn prog 279 [aI a0,aI a1] [.c (.d (.i .i64 r))]:=by
 refine fI func279 ntmps279 ?_
 refine aa H λr1 q1 H=>nA (ca (hF:=Oj q1)) ?_
 refine nA (ir rfl rfl rfl (by decide)) ?_
 exact ao H
end Go.AM
