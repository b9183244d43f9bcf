/- A part. -/
import Derived.Test.YtljhooecmjejiaaGreatS21
set_option linter.unusedVariables false
open Option renaming bind→Un
namespace Go.AM
open Go.Proofs
attribute [local irreducible] AWN NS AWO AWR AWC DR cZ eE
set_option maxRecDepth 100000
set_option maxHeartbeats 40000000
def kJ (a0:ag) (a1:az):Option bH:=
 Un (iE a1) fun r1=>bif !r1 then(Un (kR a0) fun r2=>some r2) else(bif eqB a1.aP 1 then(Un (kE a0 a1) fun r3=>some r3) else(bif eqB a1.aP 3 then(Un (iU a0 a1) fun r4=>some r4) else(bif eqB a1.aP 5 then(Un (gS a0 a1) fun r5=>some r5) else(bif eqB a1.aP 8 then(Un (jx a0 a1) fun r6=>some r6) else(Un (kR a0) fun r7=>some r7)))))
theorem xu {a0:ag} {a1:az} {r:bH} (H:kJ a0 a1=some r):Fn Tryz.prog 329 [.agg (bS a0),.agg (d5 a1)] [.agg (qM [.d,.d,.d,.o] (d7 r))]:=by
 refine fI Tryz.func329 Tryz.ntmps329 ?_
 obtain⟨r1,q1,H⟩:=ob H
 refine nA (ca (hF:=qc q1)) ?_
 refine cC H ?_ ?_<;>intro H
 ·obtain⟨r2,q2,H⟩:=ob H
  refine nA (ca (hF:=lC q2)) ?_
  cases H
  refine cG (aT (o:=3)) ?_
  refine cG (aT (o:=4)) ?_
  refine cG (aT (o:=5)) ?_
  refine cG (dr (o:=2)) ?_
  exact ah
 ·refine cC H ?_ ?_<;>intro H
  ·obtain⟨r3,q3,H⟩:=ob H
   refine nA (ca (hF:=xq q3)) ?_
   cases H
   refine cG (aT (o:=3)) ?_
   refine cG (aT (o:=4)) ?_
   refine cG (aT (o:=5)) ?_
   refine cG (dr (o:=2)) ?_
   exact ah
  ·refine cC H ?_ ?_<;>intro H
   ·obtain⟨r4,q4,H⟩:=ob H
    refine nA (ca (hF:=uU q4)) ?_
    cases H
    exact ah
   ·refine cC H ?_ ?_<;>intro H
    ·obtain⟨r5,q5,H⟩:=ob H
     refine nA (ca (hF:=sS q5)) ?_
     cases H
     exact ah
    ·refine cC H ?_ ?_<;>intro H
     ·obtain⟨r6,q6,H⟩:=ob H
      refine nA (ca (hF:=wc q6)) ?_
      cases H
      refine cG (aT (o:=3)) ?_
      refine cG (aT (o:=4)) ?_
      refine cG (aT (o:=5)) ?_
      refine cG (dr (o:=2)) ?_
      exact ah
     ·obtain⟨r7,q7,H⟩:=ob H
      refine nA (ca (hF:=lC q7)) ?_
      cases H
      refine cG (aT (o:=3)) ?_
      refine cG (aT (o:=4)) ?_
      refine cG (aT (o:=5)) ?_
      refine cG (dr (o:=2)) ?_
      exact ah
def kG (a0:ay) (a1:az):Option aS:=
 Un (iE a1) fun r1=>Un (bif !r1 then(some true) else(bif !eqB a1.aU a0.aU then(some true) else(some (eqB a0.bg 0)))) fun(v2:Bool)=>bif v2 then(Un (ol a0) fun r3=>some r3) else(Un (ia a0) fun r4=>Un (bif eqB a1.aP 2 then(some (eqB a0.bg 1)) else(some false)) fun(v5:Bool)=>bif v5 then(Un (tL a0 a1) fun r6=>some r6) else(Un (bif eqB a1.aP 4 then(bif eqB a0.bg 1 then(Un (fD a0.aJ) fun r8=>bif r8 then(bif eqB a1.aa a0.aa then(Un (fF a0.aJ a1) fun r9=>some r9) else(some false)) else(some false)) else(some false)) else(some false)) fun(v7:Bool)=>bif v7 then(some (⟨{r4 with bg:=2,aR:=a1.aR,de:=true},([]:List az)⟩:aS)) else(Un (bif eqB a1.aP 6 then(bif eqB a0.bg 2 then(bif eqB a1.aa a0.aa then(bif eqB a1.aR a0.aR then(Un (fF a0.aJ a1) fun r11=>some r11) else(some false)) else(some false)) else(some false)) else(some false)) fun(v10:Bool)=>bif v10 then(some (⟨{r4 with de:=true},([]:List az)⟩:aS)) else(Un (bif eqB a1.aP 7 then(bif eqB a0.bg 3 then(some (ltB a0.aR 999999)) else(some false)) else(some false)) fun(v12:Bool)=>bif v12 then(Un (s3 {r4 with bg:=2}) fun r13=>some r13) else(Un (bif eqB a1.aP 7 then(some (eqB a0.bg 2)) else(some false)) fun(v14:Bool)=>bif v14 then(Un (qj a0) fun r15=>Un (jr {r4 with de:=false} r15) fun r16=>some r16) else(some (⟨r4,([]:List az)⟩:aS)))))))
theorem xt {a0:ay} {a1:az} {r:aS} (H:kG a0 a1=some r):Fn Tryz.prog 331 [.agg (c7 a0),.agg (d5 a1)] [.agg (qM [.d,.d,.o] (cq r))]:=by
 refine fI Tryz.func331 Tryz.ntmps331 ?_
 obtain⟨r1,q1,H⟩:=ob H
 refine nA (ca (hF:=qc q1)) ?_
 obtain⟨v2,Hj,H⟩:=ob H
 refine jR ⟨[(2,tP 0),(3,tP 1),(4,tP 2),(20,tB v2)],[(0,.var 45 (kM [.f,.f] (df a0))),(1,.var 72 (kM [] (cI a1))),(2,.var 183 (kM [.z,.z,.z] (cq ef)))],3⟩ ?_ ?_
 ·have H:=Hj
  refine gC H ?_ ?_<;>intro H
  ·cases H
   exact wo
  ·refine gC H ?_ ?_<;>intro H
   ·cases H
    exact wo
   ·cases H
    exact wo
 refine cC H ?_ ?_<;>intro H
 ·obtain⟨r3,q3,H⟩:=ob H
  refine nA (ca (hF:=qR q3)) ?_
  cases H
  refine cG (aT (o:=3)) ?_
  refine cG (aT (o:=4)) ?_
  refine cG (dr (o:=2)) ?_
  exact ah
 ·obtain⟨r4,q4,H⟩:=ob H
  refine nA (ca (hF:=gU q4)) ?_
  obtain⟨v5,Hj,H⟩:=ob H
  refine jR ⟨[(2,tP 0),(3,tP 1),(4,tP 2),(5,tP 5),(25,tB v5)],(oM [.w 3,.w 4] 5 45 (df r4)++[(0,.var 45 (kM [.f,.f] (df a0))),(1,.var 72 (kM [] (cI a1))),(2,.var 183 (kM [.z,.z,.z] (cq ef)))]),6⟩ ?_ ?_
  ·have H:=Hj
   refine gC H ?_ ?_<;>intro H
   ·cases H
    exact wo
   ·cases H
    exact wo
  refine cC H ?_ ?_<;>intro H
  ·obtain⟨r6,q6,H⟩:=ob H
   refine nA (ca (hF:=Ge q6)) ?_
   cases H
   refine cG (aT (o:=6)) ?_
   refine cG (aT (o:=7)) ?_
   refine cG (dr (o:=2)) ?_
   exact ah
  ·obtain⟨v7,Hj,H⟩:=ob H
   refine jR ⟨[(2,tP 0),(3,tP 1),(4,tP 2),(5,tP 5),(37,tB v7)],(oM [.w 3,.w 4] 5 45 (df r4)++[(0,.var 45 (kM [.f,.f] (df a0))),(1,.var 72 (kM [] (cI a1))),(2,.var 183 (kM [.z,.z,.z] (cq ef)))]),6⟩ ?_ ?_
   ·have H:=Hj
    refine gC H ?_ ?_<;>intro H
    ·refine gC H ?_ ?_<;>intro H
     ·obtain⟨r8,q8,H⟩:=ob H
      refine nG (ca (hF:=gj q8)) ?_
      refine gC H ?_ ?_<;>intro H
      ·refine gC H ?_ ?_<;>intro H
       ·obtain⟨r9,q9,H⟩:=ob H
        refine nG (ca (hF:=hP q9)) ?_
        cases H
        exact wo
       ·cases H
        exact wo
      ·cases H
       exact wo
     ·cases H
      exact wo
    ·cases H
     exact wo
   refine cC H ?_ ?_<;>intro H
   ·cases H
    refine cG (wB 6 (([]:List az).length)) ?_
    refine cG (aT (o:=3)) ?_
    refine cG (aT (o:=4)) ?_
    refine cG (dr (o:=2)) ?_
    exact ah
   ·obtain⟨v10,Hj,H⟩:=ob H
    refine jR ⟨[(2,tP 0),(3,tP 1),(4,tP 2),(5,tP 5),(69,tB v10)],(oM [.w 3,.w 4] 5 45 (df r4)++[(0,.var 45 (kM [.f,.f] (df a0))),(1,.var 72 (kM [] (cI a1))),(2,.var 183 (kM [.z,.z,.z] (cq ef)))]),6⟩ ?_ ?_
    ·have H:=Hj
     refine gC H ?_ ?_<;>intro H
     ·refine gC H ?_ ?_<;>intro H
      ·refine gC H ?_ ?_<;>intro H
       ·refine gC H ?_ ?_<;>intro H
        ·obtain⟨r11,q11,H⟩:=ob H
         refine nG (ca (hF:=hP q11)) ?_
         cases H
         exact wo
        ·cases H
         exact wo
       ·cases H
        exact wo
      ·cases H
       exact wo
     ·cases H
      exact wo
    refine cC H ?_ ?_<;>intro H
    ·cases H
     refine cG (wB 6 (([]:List az).length)) ?_
     refine cG (aT (o:=3)) ?_
     refine cG (aT (o:=4)) ?_
     refine cG (dr (o:=2)) ?_
     exact ah
    ·obtain⟨v12,Hj,H⟩:=ob H
     refine jR ⟨[(2,tP 0),(3,tP 1),(4,tP 2),(5,tP 5),(99,tB v12)],(oM [.w 3,.w 4] 5 45 (df r4)++[(0,.var 45 (kM [.f,.f] (df a0))),(1,.var 72 (kM [] (cI a1))),(2,.var 183 (kM [.z,.z,.z] (cq ef)))]),6⟩ ?_ ?_
     ·have H:=Hj
      refine gC H ?_ ?_<;>intro H
      ·refine gC H ?_ ?_<;>intro H
       ·cases H
        exact wo
       ·cases H
        exact wo
      ·cases H
       exact wo
     refine cC H ?_ ?_<;>intro H
     ·obtain⟨r13,q13,H⟩:=ob H
      refine bR (aT (o:=3)) ?_
      refine bR (aT (o:=4)) ?_
      refine bR (cA (k:=114)) ?_
      refine sA (cwu [] [(210,6)] 7 (FnV.up (AE q13) rfl rfl)) ?_
      cases H
      exact ah
     ·obtain⟨v14,Hj,H⟩:=ob H
      refine jR ⟨[(2,tP 0),(4,tP 2),(5,tP 5),(116,tB v14)],(oM [.w 3,.w 4] 5 45 (df r4)++[(0,.var 45 (kM [.f,.f] (df a0))),(2,.var 183 (kM [.z,.z,.z] (cq ef)))]),6⟩ ?_ ?_
      ·have H:=Hj
       refine gC H ?_ ?_<;>intro H
       ·cases H
        exact wo
       ·cases H
        exact wo
      refine cC H ?_ ?_<;>intro H
      ·refine zI (List.range 5) ?_
       obtain⟨r15,q15,H⟩:=ob H
       refine zA (ca (hF:=u7 q15)) ?_
       obtain⟨r16,q16,H⟩:=ob H
       refine zB (aq (aT (o:=3)) (aq (aT (o:=4)) (cA (k:=126)))) (gq rfl (cwu [] [(210,6)] 7 (FnV.up (om q16) rfl rfl))) bT ?_
       refine wA (spx 100464) ?_
       cases H
       exact ah
      ·cases H
       refine cG (wB 6 (([]:List az).length)) ?_
       refine cG (aT (o:=3)) ?_
       refine cG (aT (o:=4)) ?_
       refine cG (dr (o:=2)) ?_
       exact ah
def oS (a0:ay) (a1:Int):Option aS:=
 Un (bif eqB a1 a0.aU then(some true) else(Un (cz a1 0 5) fun r2=>some (!r2))) fun(v1:Bool)=>bif v1 then(Un (ol a0) fun r3=>some r3) else(Un (ia a0) fun r4=>Un (bif eqB a0.bg 2 then(some (ltB a0.aR 999999)) else(some false)) fun(v5:Bool)=>bif v5 then(Un (s3 {r4 with aU:=a1}) fun r6=>some r6) else(some (⟨{r4 with aU:=a1},([]:List az)⟩:aS)))
theorem Bn {a0:ay} {a1:Int} {r:aS} (H:oS a0 a1=some r):Fn Tryz.prog 287 [.agg (c7 a0),aI a1] [.agg (qM [.d,.d,.o] (cq r))]:=by
 refine fI Tryz.func287 Tryz.ntmps287 ?_
 obtain⟨v1,Hj,H⟩:=ob H
 refine jR ⟨[(1,tI a1),(2,tP 0),(4,tP 1),(14,tB v1)],[(0,.var 45 (kM [.f,.f] (df a0))),(1,.var 183 (kM [.z,.z,.z] (cq ef)))],2⟩ ?_ ?_
 ·have H:=Hj
  refine gC H ?_ ?_<;>intro H
  ·cases H
   exact wo
  ·obtain⟨r2,q2,H⟩:=ob H
   refine nG (ca (hF:=bK q2)) ?_
   cases H
   exact wo
 refine cC H ?_ ?_<;>intro H
 ·obtain⟨r3,q3,H⟩:=ob H
  refine nA (ca (hF:=qR q3)) ?_
  cases H
  refine cG (aT (o:=2)) ?_
  refine cG (aT (o:=3)) ?_
  refine cG (dr (o:=1)) ?_
  exact ah
 ·obtain⟨r4,q4,H⟩:=ob H
  refine nA (ca (hF:=gU q4)) ?_
  obtain⟨v5,Hj,H⟩:=ob H
  refine jR ⟨[(4,tP 1),(5,tP 4),(28,tB v5)],(oM [.w 2,.w 3] 4 45 (df {r4 with aU:=a1})++[(1,.var 183 (kM [.z,.z,.z] (cq ef)))]),5⟩ ?_ ?_
  ·have H:=Hj
   refine gC H ?_ ?_<;>intro H
   ·cases H
    exact wo
   ·cases H
    exact wo
  refine cC H ?_ ?_<;>intro H
  ·obtain⟨r6,q6,H⟩:=ob H
   refine bR (aT (o:=2)) ?_
   refine bR (aT (o:=3)) ?_
   refine bR (cA (k:=29)) ?_
   refine sA (cwu [] [(210,5)] 6 (FnV.up (AE q6) rfl rfl)) ?_
   cases H
   exact ah
  ·cases H
   refine cG (wB 5 (([]:List az).length)) ?_
   refine cG (aT (o:=2)) ?_
   refine cG (aT (o:=3)) ?_
   refine cG (dr (o:=1)) ?_
   exact ah
end Go.AM
