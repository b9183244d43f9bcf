/- A part. -/
import Derived.Test.YtljhooecmjejiaaGreatS22
set_option linter.unusedVariables false
open Option renaming bind→Vj
namespace Go.AM
open Go.Proofs
attribute [local irreducible] AWN NS AWO AWR AWC DR cZ ey
set_option maxRecDepth 100000
set_option maxHeartbeats 40000000
def kX (a0:az) (a1:aA):Option aU:=
 Vj (iI a1) fun r1=>Vj (bif !r1 then(some true) else(bif !eqB a1.aX a0.aX then(some true) else(some (eqB a0.bi 0)))) fun(v2:Bool)=>bif v2 then(Vj (oJ a0) fun r3=>some r3) else(Vj (ic a0) fun r4=>Vj (bif eqB a1.aR 2 then(some (eqB a0.bi 1)) else(some false)) fun(v5:Bool)=>bif v5 then(Vj (uv a0 a1) fun r6=>some r6) else(Vj (bif eqB a1.aR 4 then(bif eqB a0.bi 1 then(Vj (fG a0.aK) fun r8=>bif r8 then(bif eqB a1.aa a0.aa then(Vj (fJ a0.aK a1) fun r9=>some r9) else(some false)) else(some false)) else(some false)) else(some false)) fun(v7:Bool)=>bif v7 then(some (⟨{r4 with bi:=2,aO:=a1.aO,dm:=true},([]:List aA)⟩:aU)) else(Vj (bif eqB a1.aR 6 then(bif eqB a0.bi 2 then(bif eqB a1.aa a0.aa then(bif eqB a1.aO a0.aO then(Vj (fJ a0.aK a1) fun r11=>some r11) else(some false)) else(some false)) else(some false)) else(some false)) fun(v10:Bool)=>bif v10 then(some (⟨{r4 with dm:=true},([]:List aA)⟩:aU)) else(Vj (bif eqB a1.aR 7 then(bif eqB a0.bi 3 then(some (ltB a0.aO 999999)) else(some false)) else(some false)) fun(v12:Bool)=>bif v12 then(Vj (tN {r4 with bi:=2}) fun r13=>some r13) else(Vj (bif eqB a1.aR 7 then(some (eqB a0.bi 2)) else(some false)) fun(v14:Bool)=>bif v14 then(Vj (qG a0) fun r15=>Vj (jJ {r4 with dm:=false} r15) fun r16=>some r16) else(some (⟨r4,([]:List aA)⟩:aU)))))))
theorem yq {a0:az} {a1:aA} {r:aU} (H:kX a0 a1=some r):Fn Tryz.prog 331 [.agg (dE a0),.agg (eb a1)] [.agg (qM [.d,.d,.o] (cA r))]:=by
 refine fI Tryz.func331 Tryz.ntmps331 ?_
 obtain⟨r1,q1,H⟩:=ob H
 refine nA (ca (hF:=qA q1)) ?_
 obtain⟨v2,Hj,H⟩:=ob H
 refine jR ⟨[(2,tP 0),(3,tP 1),(4,tP 2),(20,tB v2)],[(0,.var 45 (kM [.f,.f] (dr a0))),(1,.var 72 (kM [] (cP a1))),(2,.var 183 (kM [.z,.z,.z] (cA ev)))],3⟩ ?_ ?_
 ·have H:=Hj
  refine gC H ?_ ?_<;>intro H
  ·cases H
   exact wo
  ·refine gC H ?_ ?_<;>intro H
   ·cases H
    exact wo
   ·cases H
    exact wo
 refine cC H ?_ ?_<;>intro H
 ·obtain⟨r3,q3,H⟩:=ob H
  refine nA (ca (hF:=rF q3)) ?_
  cases H
  refine cG (aV (o:=3)) ?_
  refine cG (aV (o:=4)) ?_
  refine cG (dx (o:=2)) ?_
  exact ah
 ·obtain⟨r4,q4,H⟩:=ob H
  refine nA (ca (hF:=gT q4)) ?_
  obtain⟨v5,Hj,H⟩:=ob H
  refine jR ⟨[(2,tP 0),(3,tP 1),(4,tP 2),(5,tP 5),(25,tB v5)],(oM [.w 3,.w 4] 5 45 (dr r4)++[(0,.var 45 (kM [.f,.f] (dr a0))),(1,.var 72 (kM [] (cP a1))),(2,.var 183 (kM [.z,.z,.z] (cA ev)))]),6⟩ ?_ ?_
  ·have H:=Hj
   refine gC H ?_ ?_<;>intro H
   ·cases H
    exact wo
   ·cases H
    exact wo
  refine cC H ?_ ?_<;>intro H
  ·obtain⟨r6,q6,H⟩:=ob H
   refine nA (ca (hF:=Hs q6)) ?_
   cases H
   refine cG (aV (o:=6)) ?_
   refine cG (aV (o:=7)) ?_
   refine cG (dx (o:=2)) ?_
   exact ah
  ·obtain⟨v7,Hj,H⟩:=ob H
   refine jR ⟨[(2,tP 0),(3,tP 1),(4,tP 2),(5,tP 5),(37,tB v7)],(oM [.w 3,.w 4] 5 45 (dr r4)++[(0,.var 45 (kM [.f,.f] (dr a0))),(1,.var 72 (kM [] (cP a1))),(2,.var 183 (kM [.z,.z,.z] (cA ev)))]),6⟩ ?_ ?_
   ·have H:=Hj
    refine gC H ?_ ?_<;>intro H
    ·refine gC H ?_ ?_<;>intro H
     ·obtain⟨r8,q8,H⟩:=ob H
      refine nG (ca (hF:=gm q8)) ?_
      refine gC H ?_ ?_<;>intro H
      ·refine gC H ?_ ?_<;>intro H
       ·obtain⟨r9,q9,H⟩:=ob H
        refine nG (ca (hF:=hU q9)) ?_
        cases H
        exact wo
       ·cases H
        exact wo
      ·cases H
       exact wo
     ·cases H
      exact wo
    ·cases H
     exact wo
   refine cC H ?_ ?_<;>intro H
   ·cases H
    refine cG (wB 6 (([]:List aA).length)) ?_
    refine cG (aV (o:=3)) ?_
    refine cG (aV (o:=4)) ?_
    refine cG (dx (o:=2)) ?_
    exact ah
   ·obtain⟨v10,Hj,H⟩:=ob H
    refine jR ⟨[(2,tP 0),(3,tP 1),(4,tP 2),(5,tP 5),(69,tB v10)],(oM [.w 3,.w 4] 5 45 (dr r4)++[(0,.var 45 (kM [.f,.f] (dr a0))),(1,.var 72 (kM [] (cP a1))),(2,.var 183 (kM [.z,.z,.z] (cA ev)))]),6⟩ ?_ ?_
    ·have H:=Hj
     refine gC H ?_ ?_<;>intro H
     ·refine gC H ?_ ?_<;>intro H
      ·refine gC H ?_ ?_<;>intro H
       ·refine gC H ?_ ?_<;>intro H
        ·obtain⟨r11,q11,H⟩:=ob H
         refine nG (ca (hF:=hU q11)) ?_
         cases H
         exact wo
        ·cases H
         exact wo
       ·cases H
        exact wo
      ·cases H
       exact wo
     ·cases H
      exact wo
    refine cC H ?_ ?_<;>intro H
    ·cases H
     refine cG (wB 6 (([]:List aA).length)) ?_
     refine cG (aV (o:=3)) ?_
     refine cG (aV (o:=4)) ?_
     refine cG (dx (o:=2)) ?_
     exact ah
    ·obtain⟨v12,Hj,H⟩:=ob H
     refine jR ⟨[(2,tP 0),(3,tP 1),(4,tP 2),(5,tP 5),(99,tB v12)],(oM [.w 3,.w 4] 5 45 (dr r4)++[(0,.var 45 (kM [.f,.f] (dr a0))),(1,.var 72 (kM [] (cP a1))),(2,.var 183 (kM [.z,.z,.z] (cA ev)))]),6⟩ ?_ ?_
     ·have H:=Hj
      refine gC H ?_ ?_<;>intro H
      ·refine gC H ?_ ?_<;>intro H
       ·cases H
        exact wo
       ·cases H
        exact wo
      ·cases H
       exact wo
     refine cC H ?_ ?_<;>intro H
     ·obtain⟨r13,q13,H⟩:=ob H
      refine bT (aV (o:=3)) ?_
      refine bT (aV (o:=4)) ?_
      refine bT (cI (k:=114)) ?_
      refine sA (cwu [] [(210,6)] 7 (FnV.up (BC q13) rfl rfl)) ?_
      cases H
      exact ah
     ·obtain⟨v14,Hj,H⟩:=ob H
      refine jR ⟨[(2,tP 0),(4,tP 2),(5,tP 5),(116,tB v14)],(oM [.w 3,.w 4] 5 45 (dr r4)++[(0,.var 45 (kM [.f,.f] (dr a0))),(2,.var 183 (kM [.z,.z,.z] (cA ev)))]),6⟩ ?_ ?_
      ·have H:=Hj
       refine gC H ?_ ?_<;>intro H
       ·cases H
        exact wo
       ·cases H
        exact wo
      refine cC H ?_ ?_<;>intro H
      ·refine zI (List.range 5) ?_
       obtain⟨r15,q15,H⟩:=ob H
       refine zA (ca (hF:=vV q15)) ?_
       obtain⟨r16,q16,H⟩:=ob H
       refine zB (an (aV (o:=3)) (an (aV (o:=4)) (cI (k:=126)))) (f8 rfl (cwu [] [(210,6)] 7 (FnV.up (oK q16) rfl rfl))) bO ?_
       refine wA (spx 100464) ?_
       cases H
       exact ah
      ·cases H
       refine cG (wB 6 (([]:List aA).length)) ?_
       refine cG (aV (o:=3)) ?_
       refine cG (aV (o:=4)) ?_
       refine cG (dx (o:=2)) ?_
       exact ah
def pc (a0:az) (a1:Int):Option aU:=
 Vj (bif eqB a1 a0.aX then(some true) else(Vj (cH a1 0 5) fun r2=>some (!r2))) fun(v1:Bool)=>bif v1 then(Vj (oJ a0) fun r3=>some r3) else(Vj (ic a0) fun r4=>Vj (bif eqB a0.bi 2 then(some (ltB a0.aO 999999)) else(some false)) fun(v5:Bool)=>bif v5 then(Vj (tN {r4 with aX:=a1}) fun r6=>some r6) else(some (⟨{r4 with aX:=a1},([]:List aA)⟩:aU)))
theorem Cq {a0:az} {a1:Int} {r:aU} (H:pc a0 a1=some r):Fn Tryz.prog 287 [.agg (dE a0),aI a1] [.agg (qM [.d,.d,.o] (cA r))]:=by
 refine fI Tryz.func287 Tryz.ntmps287 ?_
 obtain⟨v1,Hj,H⟩:=ob H
 refine jR ⟨[(1,tI a1),(2,tP 0),(4,tP 1),(14,tB v1)],[(0,.var 45 (kM [.f,.f] (dr a0))),(1,.var 183 (kM [.z,.z,.z] (cA ev)))],2⟩ ?_ ?_
 ·have H:=Hj
  refine gC H ?_ ?_<;>intro H
  ·cases H
   exact wo
  ·obtain⟨r2,q2,H⟩:=ob H
   refine nG (ca (hF:=bL q2)) ?_
   cases H
   exact wo
 refine cC H ?_ ?_<;>intro H
 ·obtain⟨r3,q3,H⟩:=ob H
  refine nA (ca (hF:=rF q3)) ?_
  cases H
  refine cG (aV (o:=2)) ?_
  refine cG (aV (o:=3)) ?_
  refine cG (dx (o:=1)) ?_
  exact ah
 ·obtain⟨r4,q4,H⟩:=ob H
  refine nA (ca (hF:=gT q4)) ?_
  obtain⟨v5,Hj,H⟩:=ob H
  refine jR ⟨[(4,tP 1),(5,tP 4),(28,tB v5)],(oM [.w 2,.w 3] 4 45 (dr {r4 with aX:=a1})++[(1,.var 183 (kM [.z,.z,.z] (cA ev)))]),5⟩ ?_ ?_
  ·have H:=Hj
   refine gC H ?_ ?_<;>intro H
   ·cases H
    exact wo
   ·cases H
    exact wo
  refine cC H ?_ ?_<;>intro H
  ·obtain⟨r6,q6,H⟩:=ob H
   refine bT (aV (o:=2)) ?_
   refine bT (aV (o:=3)) ?_
   refine bT (cI (k:=29)) ?_
   refine sA (cwu [] [(210,5)] 6 (FnV.up (BC q6) rfl rfl)) ?_
   cases H
   exact ah
  ·cases H
   refine cG (wB 5 (([]:List aA).length)) ?_
   refine cG (aV (o:=2)) ?_
   refine cG (aV (o:=3)) ?_
   refine cG (dx (o:=1)) ?_
   exact ah
end Go.AM
