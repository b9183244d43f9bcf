/- A part. -/
import Derived.Test.YtljhooecmjejiaaGreatS22
set_option linter.unusedVariables false
open Option renaming bind→Vj
namespace Go.AM
open Go.Proofs
attribute [local irreducible] AWN NS AWO AWR AWC DR cZ ey
set_option maxRecDepth 100000
set_option maxHeartbeats 40000000
def nI (a0:ag) (a1:aj) (a2:aM):Option bY:=
 Vj (tO a0) fun r1=>bif r1 then(Vj (oN a0 a1) fun r2=>some r2) else(Vj (gh a0) fun r3=>bif leB r3.gL.eA r3.bW.er then(Vj (nD a1 r3.bW) fun r7=>Vj (bif ltB 0 ((r3.aq.aw.length:Nat):Int) then(Vj (Bg 5 (WR (r3.ef+1))) fun r9=>some r9) else(some 0)) fun(v8:Int)=>bif ltB 4 v8 then(Vj (tQ {r3 with ef:=v8,bW:=r7.2} r7.1 a2) fun r10=>some r10) else(Vj (bif ltB 0 ((r3.aq.aw.length:Nat):Int) then(some (ltB 0 r3.d4)) else(some false)) fun(v11:Bool)=>Vj (bif v11 then(some (([]:List ao),WR (r3.d4-1))) else(Vj (bif ltB 0 ((r3.aq.aw.length:Nat):Int) then(Vj (kq {r3 with ef:=v8,d4:=3,bW:=r7.2}) fun r16=>some (r16,3)) else(some (([]:List ao),r3.d4))) fun((v14,v15):List ao×Int)=>some (v14,v15))) fun((v12,v13):List ao×Int)=>Vj (tH {r3 with ef:=v8,d4:=v13,bW:=r7.2} r7.1) fun r17=>bif cM 64 (v12++r17.bC).length then(some {r17 with bC:=(v12++r17.bC)}) else none)) else(Vj (bif ltB 0 ((r3.aq.aw.length:Nat):Int) then(Vj (Bg 5 (WR (r3.ef+1))) fun r19=>some r19) else(some 0)) fun(v18:Int)=>bif ltB 4 v18 then(Vj (tQ {r3 with ef:=v18} a1 a2) fun r20=>some r20) else(Vj (bif ltB 0 ((r3.aq.aw.length:Nat):Int) then(some (ltB 0 r3.d4)) else(some false)) fun(v21:Bool)=>Vj (bif v21 then(some (([]:List ao),WR (r3.d4-1))) else(Vj (bif ltB 0 ((r3.aq.aw.length:Nat):Int) then(Vj (kq {r3 with ef:=v18,d4:=3}) fun r26=>some (r26,3)) else(some (([]:List ao),r3.d4))) fun((v24,v25):List ao×Int)=>some (v24,v25))) fun((v22,v23):List ao×Int)=>Vj (tH {r3 with ef:=v18,d4:=v23} a1) fun r27=>bif cM 64 (v22++r27.bC).length then(some {r27 with bC:=(v22++r27.bC)}) else none)))
theorem Bq {a0:ag} {a1:aj} {a2:aM} {r:bY} (H:nI a0 a1 a2=some r):Fn Tryz.prog 283 [.agg (bZ a0),.agg (dB a1),.agg (lx a2)] [.agg (qM [.o,.o,.o,.o,.o,.o] (ci r))]:=by
 refine fI Tryz.func283 Tryz.ntmps283 ?_
 obtain⟨r1,q1,H⟩:=ob H
 refine nA (ca (hF:=BE q1)) ?_
 refine cC H ?_ ?_<;>intro H
 ·obtain⟨r2,q2,H⟩:=ob H
  refine nA (ca (hF:=vW q2)) ?_
  cases H
  exact ah
 ·obtain⟨r3,q3,H⟩:=ob H
  refine nA (ca (hF:=fX q3)) ?_
  refine cC H ?_ ?_<;>intro H
  ·obtain⟨r7,q7,H⟩:=ob H
   refine nA (ca (hF:=Bk q7)) ?_
   obtain⟨v8,Hj,H⟩:=ob H
   refine jA ⟨[(3,tP 0),(4,tP 1),(5,tP 2),(6,tP 3),(9,tB (ltB 0 ((r3.aq.aw.length:Nat):Int)))],(oM [.w 4,.w 5,.w 6] 0 60 (cF {r3 with ef:=v8,bW:=r7.2})++(oM [.w 7] 1 66 (cS r7.1)++[(2,.var 26 [.d false (.l (a2.aZ.map dW))]),(3,.var 190 (kM [.z,.z,.z,.z,.z,.z] (ci cY)))])),8⟩ ?_ ?_
   ·have H:=Hj
    refine cC H ?_ ?_<;>intro H
    ·obtain⟨r9,q9,H⟩:=ob H
     refine nA (ca (hF:=yn q9)) ?_
     cases H
     exact wo
    ·cases H
     exact wo
   refine cC H ?_ ?_<;>intro H
   ·obtain⟨r10,q10,H⟩:=ob H
    refine nA (ca (hF:=BF q10)) ?_
    cases H
    exact ah
   ·obtain⟨v11,Hj,H⟩:=ob H
    refine jR ⟨[(3,tP 0),(4,tP 1),(6,tP 3),(9,tB (ltB 0 ((r3.aq.aw.length:Nat):Int))),(10,.v (.c (.w 8 (([]:List ao).length)))),(61,tB v11)],(oM [.w 4,.w 5,.w 6] 0 60 (cF {r3 with ef:=v8,bW:=r7.2})++(oM [.w 7] 1 66 (cS r7.1)++[(3,.var 190 (kM [.z,.z,.z,.z,.z,.z] (ci cY))),(8,w76 ([]:List ao))])),9⟩ ?_ ?_
    ·have H:=Hj
     refine gC H ?_ ?_<;>intro H
     ·cases H
      exact wo
     ·cases H
      exact wo
    obtain⟨⟨v12,v13⟩,Hj,H⟩:=ob H
    refine jA ⟨[(3,tP 0),(4,tP 1),(6,tP 3),(10,.v (.c (.w 8 v12.length)))],(oM [.w 4,.w 5,.w 6] 0 60 (cF {r3 with ef:=v8,d4:=v13,bW:=r7.2})++(oM [.w 7] 1 66 (cS r7.1)++[(3,.var 190 (kM [.z,.z,.z,.z,.z,.z] (ci cY))),(8,w76 v12)])),9⟩ ?_ ?_
    ·have H:=Hj
     refine cC H ?_ ?_<;>intro H
     ·cases H
      exact wo
     ·obtain⟨⟨v14,v15⟩,Hj,H⟩:=ob H
      refine jA ⟨[(3,tP 0),(4,tP 1),(6,tP 3),(10,.v (.c (.w 9 v14.length)))],(oM [.w 4,.w 5,.w 6] 0 60 (cF {r3 with ef:=v8,d4:=v15,bW:=r7.2})++(oM [.w 7] 1 66 (cS r7.1)++[(3,.var 190 (kM [.z,.z,.z,.z,.z,.z] (ci cY))),(9,w76 v14)])),10⟩ ?_ ?_
      ·have H:=Hj
       refine cC H ?_ ?_<;>intro H
       ·obtain⟨r16,q16,H⟩:=ob H
        refine nA (ca (hF:=vh q16)) ?_
        cases H
        exact wo
       ·cases H
        refine an (uG (nx':=10) rfl) ?_
        refine an (wS 9 8) ?_
        exact wo
      cases H
      refine an (wS 8 9) ?_
      exact wo
    obtain⟨r17,q17,H⟩:=ob H
    refine nA (ca (hF:=Bm q17)) ?_
    obtain⟨h,H⟩:=rq H
    refine sA (apT (enc:=dq) (ys:=v12) (zs:=r17.bC) h) ?_
    cases H
    exact ah
  ·obtain⟨v18,Hj,H⟩:=ob H
   refine jA ⟨[(3,tP 0),(4,tP 1),(5,tP 2),(6,tP 3),(9,tB (ltB 0 ((r3.aq.aw.length:Nat):Int)))],(oM [.w 4,.w 5,.w 6] 0 60 (cF {r3 with ef:=v18})++[(1,.var 66 (kM [.f] (cS a1))),(2,.var 26 [.d false (.l (a2.aZ.map dW))]),(3,.var 190 (kM [.z,.z,.z,.z,.z,.z] (ci cY)))]),7⟩ ?_ ?_
   ·have H:=Hj
    refine cC H ?_ ?_<;>intro H
    ·obtain⟨r19,q19,H⟩:=ob H
     refine nA (ca (hF:=yn q19)) ?_
     cases H
     exact wo
    ·cases H
     exact wo
   refine cC H ?_ ?_<;>intro H
   ·obtain⟨r20,q20,H⟩:=ob H
    refine nA (ca (hF:=BF q20)) ?_
    cases H
    exact ah
   ·obtain⟨v21,Hj,H⟩:=ob H
    refine jR ⟨[(3,tP 0),(4,tP 1),(6,tP 3),(9,tB (ltB 0 ((r3.aq.aw.length:Nat):Int))),(10,.v (.c (.w 7 (([]:List ao).length)))),(61,tB v21)],(oM [.w 4,.w 5,.w 6] 0 60 (cF {r3 with ef:=v18})++[(1,.var 66 (kM [.f] (cS a1))),(3,.var 190 (kM [.z,.z,.z,.z,.z,.z] (ci cY))),(7,w76 ([]:List ao))]),8⟩ ?_ ?_
    ·have H:=Hj
     refine gC H ?_ ?_<;>intro H
     ·cases H
      exact wo
     ·cases H
      exact wo
    obtain⟨⟨v22,v23⟩,Hj,H⟩:=ob H
    refine jA ⟨[(3,tP 0),(4,tP 1),(6,tP 3),(10,.v (.c (.w 7 v22.length)))],(oM [.w 4,.w 5,.w 6] 0 60 (cF {r3 with ef:=v18,d4:=v23})++[(1,.var 66 (kM [.f] (cS a1))),(3,.var 190 (kM [.z,.z,.z,.z,.z,.z] (ci cY))),(7,w76 v22)]),8⟩ ?_ ?_
    ·have H:=Hj
     refine cC H ?_ ?_<;>intro H
     ·cases H
      exact wo
     ·obtain⟨⟨v24,v25⟩,Hj,H⟩:=ob H
      refine jA ⟨[(3,tP 0),(4,tP 1),(6,tP 3),(10,.v (.c (.w 8 v24.length)))],(oM [.w 4,.w 5,.w 6] 0 60 (cF {r3 with ef:=v18,d4:=v25})++[(1,.var 66 (kM [.f] (cS a1))),(3,.var 190 (kM [.z,.z,.z,.z,.z,.z] (ci cY))),(8,w76 v24)]),9⟩ ?_ ?_
      ·have H:=Hj
       refine cC H ?_ ?_<;>intro H
       ·obtain⟨r26,q26,H⟩:=ob H
        refine nA (ca (hF:=vh q26)) ?_
        cases H
        exact wo
       ·cases H
        refine an (uG (nx':=9) rfl) ?_
        refine an (wS 8 7) ?_
        exact wo
      cases H
      refine an (wS 7 8) ?_
      exact wo
    obtain⟨r27,q27,H⟩:=ob H
    refine nA (ca (hF:=Bm q27)) ?_
    obtain⟨h,H⟩:=rq H
    refine sA (apT (enc:=dq) (ys:=v22) (zs:=r27.bC) h) ?_
    cases H
    exact ah
def kY (a0:ag) (a1:aA):Option bK:=
 Vj (iI a1) fun r1=>bif !r1 then(Vj (lg a0) fun r2=>some r2) else(bif eqB a1.aR 1 then(Vj (kV a0 a1) fun r3=>some r3) else(bif eqB a1.aR 3 then(Vj (jc a0 a1) fun r4=>some r4) else(bif eqB a1.aR 5 then(Vj (gR a0 a1) fun r5=>some r5) else(bif eqB a1.aR 8 then(Vj (jP a0 a1) fun r6=>some r6) else(Vj (lg a0) fun r7=>some r7)))))
theorem yr {a0:ag} {a1:aA} {r:bK} (H:kY a0 a1=some r):Fn Tryz.prog 329 [.agg (bZ a0),.agg (eb a1)] [.agg (qM [.d,.d,.d,.o] (ed r))]:=by
 refine fI Tryz.func329 Tryz.ntmps329 ?_
 obtain⟨r1,q1,H⟩:=ob H
 refine nA (ca (hF:=qA q1)) ?_
 refine cC H ?_ ?_<;>intro H
 ·obtain⟨r2,q2,H⟩:=ob H
  refine nA (ca (hF:=lQ q2)) ?_
  cases H
  refine cG (aV (o:=3)) ?_
  refine cG (aV (o:=4)) ?_
  refine cG (aV (o:=5)) ?_
  refine cG (dx (o:=2)) ?_
  exact ah
 ·refine cC H ?_ ?_<;>intro H
  ·obtain⟨r3,q3,H⟩:=ob H
   refine nA (ca (hF:=yo q3)) ?_
   cases H
   refine cG (aV (o:=3)) ?_
   refine cG (aV (o:=4)) ?_
   refine cG (aV (o:=5)) ?_
   refine cG (dx (o:=2)) ?_
   exact ah
  ·refine cC H ?_ ?_<;>intro H
   ·obtain⟨r4,q4,H⟩:=ob H
    refine nA (ca (hF:=vN q4)) ?_
    cases H
    exact ah
   ·refine cC H ?_ ?_<;>intro H
    ·obtain⟨r5,q5,H⟩:=ob H
     refine nA (ca (hF:=tF q5)) ?_
     cases H
     exact ah
    ·refine cC H ?_ ?_<;>intro H
     ·obtain⟨r6,q6,H⟩:=ob H
      refine nA (ca (hF:=xf q6)) ?_
      cases H
      refine cG (aV (o:=3)) ?_
      refine cG (aV (o:=4)) ?_
      refine cG (aV (o:=5)) ?_
      refine cG (dx (o:=2)) ?_
      exact ah
     ·obtain⟨r7,q7,H⟩:=ob H
      refine nA (ca (hF:=lQ q7)) ?_
      cases H
      refine cG (aV (o:=3)) ?_
      refine cG (aV (o:=4)) ?_
      refine cG (aV (o:=5)) ?_
      refine cG (dx (o:=2)) ?_
      exact ah
end Go.AM
