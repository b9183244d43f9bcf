/- A part. -/
import Derived.Test.YtbfpkbncbebapaaGreatI11
set_option linter.unusedVariables false
open Option renaming bind->aaC
namespace Go.AM
open Go.Proofs
open Tryz
attribute [local irreducible] AWN NS AWO AWR AWC DR dO ip
set_option maxRecDepth 100000
set_option maxHeartbeats 40000000
def nz (a0:ae) (a1:aR):Option bT:=
 aaC (kP a1) λr1=>bif r1 then(bif eqB a1.aS 1 then(aaC (nq a0 a1) λr2=>some r2) else(bif eqB a1.aS 3 then(aaC (ly a0 a1) λr3=>some r3) else(bif eqB a1.aS 5 then(aaC (jz a0 a1) λr4=>some r4) else(bif eqB a1.aS 8 then(aaC (mr a0 a1) λr5=>some r5) else(aaC (db a0 []) λr6=>some r6))))) else(aaC (db a0 []) λr7=>some r7)
theorem Bc {a0:ae} {a1:aR} {r:bT} (H:nz a0 a1=some r):Fn prog 229 [.agg (cG a0),.agg (dY a1)] [.agg (qM [.o,.o,.o,.o] (dU r))]:=by
 refine fI func229 ntmps229 ?_
 refine aa H λr1 q1 H=>nA (ca (hF:=t9 q1)) ?_
 refine cC H ?_ ?_<;>intro H
 .refine cC H ?_ ?_<;>intro H
  .refine aa H λr2 q2 H=>nA (ca (hF:=A9 q2)) ?_
   exact ao H
  refine cC H ?_ ?_<;>intro H
  .refine aa H λr3 q3 H=>nA (ca (hF:=yI q3)) ?_
   exact ao H
  refine cC H ?_ ?_<;>intro H
  .refine aa H λr4 q4 H=>nA (ca (hF:=wC q4)) ?_
   exact ao H
  refine cC H ?_ ?_<;>intro H
  .refine aa H λr5 q5 H=>nA (ca (hF:=zG q5)) ?_
   exact ao H
  refine aa H λr6 q6 H=>nA (ca (hF:=ef q6)) ?_
  exact ao H
 refine aa H λr7 q7 H=>nA (ca (hF:=ef q7)) ?_
 exact ao H
def ny (a0:aw) (a1:aR):Option bg:=
 aaC (kP a1) λr1=>aaC (bif !r1 then(some true) else(bif !eqB a1.aE a0.aE then(some true) else(some (eqB a0.aG 0)))) λ(v2:Bool)=>bif v2 then(aaC (cm a0 []) λr3=>some r3) else(bif eqB a1.aS 2 then(bif eqB a0.aG 1 then(aaC (lA a0 a1) λr4=>some r4) else(aaC (cm a0 []) λr5=>some r5)) else(bif eqB a1.aS 4 then(aaC (bif eqB a0.aG 1 then(aaC (gA a0.aV) λr7=>bif r7 then(bif eqB a1.ag a0.ag then(aaC (iW a0.aV a1) λr8=>some r8) else(some false)) else(some false)) else(some false)) λ(v6:Bool)=>aaC (bif v6 then(some {a0 with aG:=2,aF:=a1.aF,bM:=true}) else(some a0)) λ(v12:aw)=>aaC (cm v12 []) λr13=>some r13) else(bif eqB a1.aS 6 then(aaC (bif eqB a0.aG 2 then(bif eqB a1.ag a0.ag then(bif eqB a1.aF a0.aF then(aaC (iW a0.aV a1) λr15=>some r15) else(some false)) else(some false)) else(some false)) λ(v14:Bool)=>aaC (bif v14 then(some true) else(some a0.bM)) λ(v16:Bool)=>aaC (cm {a0 with bM:=v16} []) λr17=>some r17) else(bif eqB a1.aS 7 then(aaC (bif eqB a0.aG 3 then(some (ltB a0.aF 999999)) else(some false)) λ(v18:Bool)=>bif v18 then(aaC (gY {a0 with aG:=2,aF:=WR (a0.aF+1)}) λr19=>some r19) else(bif eqB a0.aG 2 then(aaC (gY a0) λr20=>some r20) else(aaC (cm a0 []) λr21=>some r21))) else(aaC (cm a0 []) λr22=>some r22)))))
theorem Bb {a0:aw} {a1:aR} {r:bg} (H:ny a0 a1=some r):Fn prog 231 [.agg (dq a0),.agg (dY a1)] [.agg (qM [.o,.o,.o] (cM r))]:=by
 refine fI func231 ntmps231 ?_
 refine aa H λr1 q1 H=>nA (ca (hF:=t9 q1)) ?_
 refine aa H λv2 Hj H=>jR ⟨[(2,tP 0),(3,tP 1),(4,tP 2),(19,tB v2)],[(0,.var 86 (kM [.f,.f] (fL a0))),(1,.var 42 (kM [] (ig a1))),(2,.var 181 (kM [.z,.z,.z] (cM fX)))],3⟩ ?_ ?_
 .refine gC Hj ?_ ?_<;>intro H
  .exact ai H
  refine gC H ?_ ?_<;>intro H
  .exact ai H
  exact ai H
 refine cC H ?_ ?_<;>intro H
 .refine aa H λr3 q3 H=>nA (ca (hF:=cN q3)) ?_
  exact ao H
 refine cC H ?_ ?_<;>intro H
 .refine cC H ?_ ?_<;>intro H
  .refine aa H λr4 q4 H=>nA (ca (hF:=yK q4)) ?_
   exact ao H
  refine aa H λr5 q5 H=>nA (ca (hF:=cN q5)) ?_
  exact ao H
 refine cC H ?_ ?_<;>intro H
 .refine aa H λv6 Hj H=>jR ⟨[(2,tP 0),(3,tP 1),(4,tP 2),(54,tB v6)],[(0,.var 86 (kM [.f,.f] (fL a0))),(1,.var 42 (kM [] (ig a1))),(2,.var 181 (kM [.z,.z,.z] (cM fX)))],3⟩ ?_ ?_
  .refine gC Hj ?_ ?_<;>intro H
   .refine aa H λr7 q7 H=>nG (ca (hF:=gX q7)) ?_
    refine gC H ?_ ?_<;>intro H
    .refine gC H ?_ ?_<;>intro H
     .refine aa H λr8 q8 H=>nG (ca (hF:=mt q8)) ?_
      exact ai H
     exact ai H
    exact ai H
   exact ai H
  refine aa H λv12 Hj H=>jA ⟨[(2,tP 0),(4,tP 2)],[(0,.var 86 (kM [.f,.f] (fL v12))),(2,.var 181 (kM [.z,.z,.z] (cM fX)))],3⟩ ?_ ?_
  .refine cC Hj ?_ ?_<;>intro H
   .exact ai H
   exact ai H
  refine aa H λr13 q13 H=>nA (ca (hF:=cN q13)) ?_
  exact ao H
 refine cC H ?_ ?_<;>intro H
 .refine aa H λv14 Hj H=>jR ⟨[(2,tP 0),(4,tP 2),(84,tB v14)],[(0,.var 86 (kM [.f,.f] (fL a0))),(2,.var 181 (kM [.z,.z,.z] (cM fX)))],3⟩ ?_ ?_
  .refine gC Hj ?_ ?_<;>intro H
   .refine gC H ?_ ?_<;>intro H
    .refine gC H ?_ ?_<;>intro H
     .refine aa H λr15 q15 H=>nG (ca (hF:=mt q15)) ?_
      exact ai H
     exact ai H
    exact ai H
   exact ai H
  refine aa H λv16 Hj H=>jA ⟨[(2,tP 0),(4,tP 2)],[(0,.var 86 (kM [.f,.f] (fL {a0 with bM:=v16}))),(2,.var 181 (kM [.z,.z,.z] (cM fX)))],3⟩ ?_ ?_
  .refine cC Hj ?_ ?_<;>intro H
   .exact ai H
   exact ai H
  refine aa H λr17 q17 H=>nA (ca (hF:=cN q17)) ?_
  exact ao H
 refine cC H ?_ ?_<;>intro H
 .refine aa H λv18 Hj H=>jR ⟨[(2,tP 0),(4,tP 2),(95,tB v18)],[(0,.var 86 (kM [.f,.f] (fL a0))),(2,.var 181 (kM [.z,.z,.z] (cM fX)))],3⟩ ?_ ?_
  .refine gC Hj ?_ ?_<;>intro H
   .exact ai H
   exact ai H
  refine cC H ?_ ?_<;>intro H
  .refine aa H λr19 q19 H=>nA (ca (hF:=pT q19)) ?_
   exact ao H
  refine cC H ?_ ?_<;>intro H
  .refine aa H λr20 q20 H=>nA (ca (hF:=pT q20)) ?_
   exact ao H
  refine aa H λr21 q21 H=>nA (ca (hF:=cN q21)) ?_
  exact ao H
 refine aa H λr22 q22 H=>nA (ca (hF:=cN q22)) ?_
 exact ao H
def wH (a0:ab) (a1:Int):Option ab:=
 aaC (pA a0 a1) λr1=>aaC (tZ r1.2 r1.1.aE) λr2=>aaC (bif !r2 then(some {r1.2 with Lost:=WR (r1.2.Lost+1)}) else(aaC (bif r1.1.dS then(bif r1.1.bW then(some true) else(some (!eqB r1.1.aM.aE r1.1.aE))) else(some false)) λ(v14:Bool)=>aaC (bif v14 then(some r1.2) else(aaC (bif r1.1.dS then(aaC (ix r1.2.aj r1.1.aJ) λx37=>aaC (nz x37 r1.1.aM) λr38=>aaC (ix r1.2.aj r1.1.aJ) λx39=>aaC (kc {r1.2 with aj:=(r1.2.aj.set (r1.1.aJ).toNat r38.az)} r1.1.aJ r38.bL) λr40=>some r40) else(aaC (ix r1.2.ah r1.1.aJ) λx41=>aaC (bif !eqB x41.aE r1.1.aE then(some {r1.2 with Lost:=WR (r1.2.Lost+1)}) else(aaC (bif r1.1.bW then(aaC (ix r1.2.ah r1.1.aJ) λx64=>aaC (oQ x64 r1.1.b6) λr65=>aaC (fw r1.2 r1.1.aJ r65) λr66=>some r66) else(aaC (ix r1.2.ah r1.1.aJ) λx67=>aaC (ny x67 r1.1.aM) λr68=>aaC (fw r1.2 r1.1.aJ r68) λr69=>some r69)) λ(v63:ab)=>some v63)) λ(v52:ab)=>some v52)) λ(v36:ab)=>some v36)) λ(v25:ab)=>some v25)) λ(v13:ab)=>some v13
theorem Mk {a0:ab} {a1:Int} {r:ab} (H:wH a0 a1=some r):FnV prog 150 (nI a0) [tP 200,tI a1] (nI r) (.tup []) []:=by
 refine fV func150 ntmps150 ?_
 refine aa H λr1 q1 H=>sA (cwu m0 [] 210 (Fq q1)) ?_
 refine dI ?_
 refine aa H λr2 q2 H=>dA (ca (hF:=JX q2)) ?_
 refine wI ?_
 refine aa H λv13 Hj H=>jA ⟨[],(nI v13),210⟩ ?_ ?_
 .refine cC Hj ?_ ?_<;>intro H
  .exact ai H
  refine aa H λv14 Hj H=>jR ⟨[(0,tP 200),(4,tP 210),(5,tI r1.1.aJ),(40,tB v14)],(nI r1.2++[(210,.var 48 (kM [.t] (tV r1.1)))]),211⟩ ?_ ?_
  .refine gC Hj ?_ ?_<;>intro H
   .refine gC H ?_ ?_<;>intro H
    .exact ai H
    exact ai H
   exact ai H
  refine aa H λv25 Hj H=>jA ⟨[],(nI v25),210⟩ ?_ ?_
  .refine cC Hj ?_ ?_<;>intro H
   .exact ai H
   refine aa H λv36 Hj H=>jA ⟨[],(nI v36),210⟩ ?_ ?_
   .refine cC Hj ?_ ?_<;>intro H
    .refine zI (List.range 12) ?_
     refine aa H λx37 hx37 H=>zA (xwT hx37) ?_
     refine zA (oea (he:=eU _ hx37)) ?_
     refine aa H λr38 q38 H=>zA (ca (hF:=Bc q38)) ?_
     refine wA (spx 100658) ?_
     refine zI (List.range 9) ?_
     refine aa H λx39 hx39 H=>zA (xwT hx39) ?_
     refine zB (aH (bw (o:=211)) (aH (bw (o:=212)) (aH (bw (o:=213)) (bJ (k:=74))))) (jp rfl (soT (enc:=cG) (a':=r38.az) hx39)) b7 ?_
     refine aa H λr40 q40 H=>bN (bw (o:=214)) ?_
     refine bN (bJ (k:=79)) ?_
     refine bN (wB 191 ((r1.2.aj.set (r1.1.aJ).toNat r38.az).length)) ?_
     refine sA (cwu m0 [] 216 (vJ q40)) ?_
     exact ai H
    refine dI ?_
    refine aa H λx41 hx41 H=>dA (xwT hx41) ?_
    refine dA (oe (he:=eU _ hx41)) ?_
    refine wI ?_
    refine aa H λv52 Hj H=>jA ⟨[],(nI v52),210⟩ ?_ ?_
    .refine cC Hj ?_ ?_<;>intro H
     .exact ai H
     refine aa H λv63 Hj H=>jA ⟨[],(nI v63),210⟩ ?_ ?_
     .refine cC Hj ?_ ?_<;>intro H
      .refine zI (List.range 13) ?_
       refine aa H λx64 hx64 H=>zA (xwT hx64) ?_
       refine zA (oea (he:=eU _ hx64)) ?_
       refine aa H λr65 q65 H=>zA (ca (hF:=Ck q65)) ?_
       refine aa H λr66 q66 H=>zB (aH (bw (o:=211)) (aH (bw (o:=212)) (aH (bw (o:=213)) (bJ (k:=114))))) (jp rfl (cwu m0 [] 214 (kY q66))) b7 ?_
       exact ai H
      refine zI (List.range 13) ?_
      refine aa H λx67 hx67 H=>zA (xwT hx67) ?_
      refine zA (oea (he:=eU _ hx67)) ?_
      refine aa H λr68 q68 H=>zA (ca (hF:=Bb q68)) ?_
      refine aa H λr69 q69 H=>zB (aH (bw (o:=211)) (aH (bw (o:=212)) (aH (bw (o:=213)) (bJ (k:=23))))) (jp rfl (cwu m0 [] 214 (kY q69))) b7 ?_
      exact ai H
     exact ai H
    exact ai H
   exact ai H
  exact ai H
 cases H
 exact rf
def pk (a0:aw) (a1:Int):Option bg:=
 aaC (bif eqB a1 a0.aE then(some true) else(aaC (bE a1 0 5) λr2=>some (!r2))) λ(v1:Bool)=>bif v1 then(aaC (cm a0 []) λr3=>some r3) else(aaC (bif !eqB a0.aG 2 then(some true) else(some (leB 999999 a0.aF))) λ(v4:Bool)=>bif v4 then(aaC (cm {a0 with aE:=a1} []) λr5=>some r5) else(aaC (gY {a0 with aE:=a1,aF:=WR (a0.aF+1)}) λr6=>some r6))
theorem Ff {a0:aw} {a1:Int} {r:bg} (H:pk a0 a1=some r):Fn prog 181 [.agg (dq a0),aI a1] [.agg (qM [.o,.o,.o] (cM r))]:=by
 refine fI func181 ntmps181 ?_
 refine aa H λv1 Hj H=>jR ⟨[(1,tI a1),(2,tP 0),(4,tP 1),(13,tB v1)],[(0,.var 86 (kM [.f,.f] (fL a0))),(1,.var 181 (kM [.z,.z,.z] (cM fX)))],2⟩ ?_ ?_
 .refine gC Hj ?_ ?_<;>intro H
  .exact ai H
  refine aa H λr2 q2 H=>nG (ca (hF:=bA q2)) ?_
  exact ai H
 refine cC H ?_ ?_<;>intro H
 .refine aa H λr3 q3 H=>nA (ca (hF:=cN q3)) ?_
  exact ao H
 refine aa H λv4 Hj H=>jR ⟨[(2,tP 0),(4,tP 1),(25,tB v4)],[(0,.var 86 (kM [.f,.f] (fL {a0 with aE:=a1}))),(1,.var 181 (kM [.z,.z,.z] (cM fX)))],2⟩ ?_ ?_
 .refine gC Hj ?_ ?_<;>intro H
  .exact ai H
  exact ai H
 refine cC H ?_ ?_<;>intro H
 .refine aa H λr5 q5 H=>nA (ca (hF:=cN q5)) ?_
  exact ao H
 refine aa H λr6 q6 H=>nA (ca (hF:=pT q6)) ?_
 exact ao H
end Go.AM
