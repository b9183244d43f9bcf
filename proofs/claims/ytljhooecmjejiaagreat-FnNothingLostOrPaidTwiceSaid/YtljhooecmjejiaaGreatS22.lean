/- A part. -/
import Derived.Test.YtljhooecmjejiaaGreatS21
set_option linter.unusedVariables false
open Option renaming bind→Un
namespace Go.AM
open Go.Proofs
attribute [local irreducible] AWN NS AWO AWR AWC DR cZ eE
set_option maxRecDepth 100000
set_option maxHeartbeats 40000000
def tN (a0:aH) (a1:ab):Option (cX×aH):=
 Un (bZ a0 ((a1.ai.length:Nat):Int)) fun r1=>Un (ix a1.ai r1.1) fun x2=>Un (bZ r1.2 ((a1.dW.aX.length:Nat):Int)) fun r3=>Un (gb r3.2 2) fun r4=>Un (bZ r4.2 3) fun r5=>Un (bif eqB r5.1 0 then(Un (bZ r5.2 9) fun r30=>Un (n9 x2.aJ x2.aa x2.aR (⟨WR (1+r30.1),[9]⟩:ae)) fun r31=>some (r30.2,(⟨r1.1,false,true,r3.1,dH,{r31 with aZ:={r31.aZ with im:=Int.tmod (WR (r31.aZ.im+1)) 2147483647}}⟩:bJ))) else(Un (bif eqB r5.1 1 then(Un (yO r5.2 x2) fun r49=>some (false,r49.2,r49.1)) else(Un (ix a1.am r1.1) fun x50=>Un (qT r5.2 x50) fun r51=>some (true,r51.2,r51.1))) fun((v35,v47,v48):Bool×aH×az)=>some (v47,(⟨r1.1,v35,false,r3.1,v48,d8⟩:bJ)))) fun((v28,v29):aH×bJ)=>Un (oP a1 {dv with aP:=13,bk:=v29}) fun r52=>Un (bif !r52 then(some 7) else(some v29.aV.aP)) fun(v53:Int)=>some ({dv with aP:=13,bk:={v29 with aV:={v29.aV with aP:=v53}}},v28)
theorem Gg {a0:aH} {a1:ab} {r:cX×aH} (H:tN a0 a1=some r):FnV Tryz.prog 227 [(200,.var 143 (kM [.f] (bI a0)))] [tP 200,.v (.agg (kM [.f,.f,.f,.f,.f] (aO a1)))] [(200,.var 143 (kM [.f] (bI r.2)))] (.v (.agg (kM [.z,.n 210] (eA {r.1 with aN:=[]})))) [(210,n5 r.1.bk.b7.aZ.aN)]:=by
 refine fV Tryz.func227 Tryz.ntmps227 ?_
 obtain⟨r1,q1,H⟩:=ob H
 refine sA (cw (o:=200) (bL q1)) ?_
 obtain⟨x2,hx2,H⟩:=ob H
 refine nA (xdT (enc:=c7) hx2) ?_
 obtain⟨r3,q3,H⟩:=ob H
 refine sA (cw (o:=200) (bL q3)) ?_
 obtain⟨r4,q4,H⟩:=ob H
 refine sA (cw (o:=200) (f7 q4)) ?_
 obtain⟨r5,q5,H⟩:=ob H
 refine sA (cw (o:=200) (bL q5)) ?_
 obtain⟨⟨v28,v29⟩,Hj,H⟩:=ob H
 refine jA ⟨[(3,tP 210),(4,tP 211),(7,tP 213)],(oM [.n 215] 213 78 (kc v29)++[(200,.var 143 (kM [.f] (bI v28))),(210,.var 34 (kM [.f,.f,.f,.f,.f] (aO a1))),(211,.var 80 (kM [.z,.z] (eA dv)))]),216⟩ ?_ ?_
 ·have H:=Hj
  refine cC H ?_ ?_<;>intro H
  ·refine zI (List.range 14) ?_
   obtain⟨r30,q30,H⟩:=ob H
   refine wA (cwx (o:=200) (bL q30)) ?_
   obtain⟨r31,q31,H⟩:=ob H
   refine zA (ca (hF:=we q31)) ?_
   refine wA (spx 100330) ?_
   refine nA (ir rfl rfl rfl (by decide)) ?_
   cases H
   refine aq (du 215) ?_
   refine aq (wB 214 [9].length) ?_
   exact wo
  ·obtain⟨⟨v35,v47,v48⟩,Hj,H⟩:=ob H
   refine jA ⟨[(3,tP 210),(4,tP 211),(7,tP 213)],[(200,.var 143 (kM [.f] (bI v47))),(210,.var 34 (kM [.f,.f,.f,.f,.f] (aO a1))),(211,.var 80 (kM [.z,.z] (eA dv))),(213,.var 78 (kM [.z] (kc (⟨r1.1,v35,false,r3.1,v48,d8⟩:bJ))))],214⟩ ?_ ?_
   ·have H:=Hj
    refine cC H ?_ ?_<;>intro H
    ·obtain⟨r49,q49,H⟩:=ob H
     refine sA (cw (o:=200) (KM q49)) ?_
     cases H
     exact wo
    ·obtain⟨x50,hx50,H⟩:=ob H
     refine nA (xdT (enc:=bS) hx50) ?_
     obtain⟨r51,q51,H⟩:=ob H
     refine sA (cw (o:=200) (DU q51)) ?_
     cases H
     exact wo
   cases H
   refine aq (c8 (o:=213) (j:=19) 5 1 true) ?_
   refine aq (wB 214 (([]:List Int).length)) ?_
   refine aq (wN (nx':=216) rfl) ?_
   refine aq (wS 215 214) ?_
   exact wo
 obtain⟨r52,q52,H⟩:=ob H
 refine nA (ca (hF:=Bl q52)) ?_
 obtain⟨v53,Hj,H⟩:=ob H
 refine jA ⟨[(4,tP 211),(8,tP 216)],(oM [.z,.n 215] 216 80 (eA {dv with aP:=13,bk:={v29 with aV:={v29.aV with aP:=v53}}})++[(200,.var 143 (kM [.f] (bI v28))),(211,.var 80 (kM [.z,.z] (eA dv)))]),217⟩ ?_ ?_
 ·have H:=Hj
  refine cC H ?_ ?_<;>intro H
  ·cases H
   exact wo
  ·cases H
   exact wo
 cases H
 refine bU (wS 215 210) ?_
 exact bV
def nk (a0:ag) (a1:aj) (a2:aK):Option bX:=
 Un (s4 a0) fun r1=>bif r1 then(Un (ot a0 a1) fun r2=>some r2) else(Un (ge a0) fun r3=>bif leB r3.gN.ei r3.bO.dX then(Un (nh a1 r3.bO) fun r7=>Un (bif ltB 0 ((r3.an.aw.length:Nat):Int) then(Un (Ai 5 (WR (r3.d9+1))) fun r9=>some r9) else(some 0)) fun(v8:Int)=>bif ltB 4 v8 then(Un (s5 {r3 with d9:=v8,bO:=r7.2} r7.1 a2) fun r10=>some r10) else(Un (bif ltB 0 ((r3.an.aw.length:Nat):Int) then(some (ltB 0 r3.dS)) else(some false)) fun(v11:Bool)=>Un (bif v11 then(some (([]:List av),WR (r3.dS-1))) else(Un (bif ltB 0 ((r3.an.aw.length:Nat):Int) then(Un (jS {r3 with d9:=v8,dS:=3,bO:=r7.2}) fun r16=>some (r16,3)) else(some (([]:List av),r3.dS))) fun((v14,v15):List av×Int)=>some (v14,v15))) fun((v12,v13):List av×Int)=>Un (sU {r3 with d9:=v8,dS:=v13,bO:=r7.2} r7.1) fun r17=>bif cS 64 (v12++r17.b7).length then(some {r17 with b7:=(v12++r17.b7)}) else none)) else(Un (bif ltB 0 ((r3.an.aw.length:Nat):Int) then(Un (Ai 5 (WR (r3.d9+1))) fun r19=>some r19) else(some 0)) fun(v18:Int)=>bif ltB 4 v18 then(Un (s5 {r3 with d9:=v18} a1 a2) fun r20=>some r20) else(Un (bif ltB 0 ((r3.an.aw.length:Nat):Int) then(some (ltB 0 r3.dS)) else(some false)) fun(v21:Bool)=>Un (bif v21 then(some (([]:List av),WR (r3.dS-1))) else(Un (bif ltB 0 ((r3.an.aw.length:Nat):Int) then(Un (jS {r3 with d9:=v18,dS:=3}) fun r26=>some (r26,3)) else(some (([]:List av),r3.dS))) fun((v24,v25):List av×Int)=>some (v24,v25))) fun((v22,v23):List av×Int)=>Un (sU {r3 with d9:=v18,dS:=v23} a1) fun r27=>bif cS 64 (v22++r27.b7).length then(some {r27 with b7:=(v22++r27.b7)}) else none)))
theorem As {a0:ag} {a1:aj} {a2:aK} {r:bX} (H:nk a0 a1 a2=some r):Fn Tryz.prog 283 [.agg (bS a0),.agg (da a1),.agg (lf a2)] [.agg (qM [.o,.o,.o,.o,.o,.o] (b9 r))]:=by
 refine fI Tryz.func283 Tryz.ntmps283 ?_
 obtain⟨r1,q1,H⟩:=ob H
 refine nA (ca (hF:=AG q1)) ?_
 refine cC H ?_ ?_<;>intro H
 ·obtain⟨r2,q2,H⟩:=ob H
  refine nA (ca (hF:=u9 q2)) ?_
  cases H
  exact ah
 ·obtain⟨r3,q3,H⟩:=ob H
  refine nA (ca (hF:=fQ q3)) ?_
  refine cC H ?_ ?_<;>intro H
  ·obtain⟨r7,q7,H⟩:=ob H
   refine nA (ca (hF:=Am q7)) ?_
   obtain⟨v8,Hj,H⟩:=ob H
   refine jA ⟨[(3,tP 0),(4,tP 1),(5,tP 2),(6,tP 3),(9,tB (ltB 0 ((r3.an.aw.length:Nat):Int)))],(oM [.w 4,.w 5,.w 6] 0 60 (cy {r3 with d9:=v8,bO:=r7.2})++(oM [.w 7] 1 66 (cM r7.1)++[(2,.var 26 [.d false (.l (a2.aX.map dP))]),(3,.var 190 (kM [.z,.z,.z,.z,.z,.z] (b9 cU)))])),8⟩ ?_ ?_
   ·have H:=Hj
    refine cC H ?_ ?_<;>intro H
    ·obtain⟨r9,q9,H⟩:=ob H
     refine nA (ca (hF:=xp q9)) ?_
     cases H
     exact wo
    ·cases H
     exact wo
   refine cC H ?_ ?_<;>intro H
   ·obtain⟨r10,q10,H⟩:=ob H
    refine nA (ca (hF:=AH q10)) ?_
    cases H
    exact ah
   ·obtain⟨v11,Hj,H⟩:=ob H
    refine jR ⟨[(3,tP 0),(4,tP 1),(6,tP 3),(9,tB (ltB 0 ((r3.an.aw.length:Nat):Int))),(10,.v (.c (.w 8 (([]:List av).length)))),(61,tB v11)],(oM [.w 4,.w 5,.w 6] 0 60 (cy {r3 with d9:=v8,bO:=r7.2})++(oM [.w 7] 1 66 (cM r7.1)++[(3,.var 190 (kM [.z,.z,.z,.z,.z,.z] (b9 cU))),(8,w76 ([]:List av))])),9⟩ ?_ ?_
    ·have H:=Hj
     refine gC H ?_ ?_<;>intro H
     ·cases H
      exact wo
     ·cases H
      exact wo
    obtain⟨⟨v12,v13⟩,Hj,H⟩:=ob H
    refine jA ⟨[(3,tP 0),(4,tP 1),(6,tP 3),(10,.v (.c (.w 8 v12.length)))],(oM [.w 4,.w 5,.w 6] 0 60 (cy {r3 with d9:=v8,dS:=v13,bO:=r7.2})++(oM [.w 7] 1 66 (cM r7.1)++[(3,.var 190 (kM [.z,.z,.z,.z,.z,.z] (b9 cU))),(8,w76 v12)])),9⟩ ?_ ?_
    ·have H:=Hj
     refine cC H ?_ ?_<;>intro H
     ·cases H
      exact wo
     ·obtain⟨⟨v14,v15⟩,Hj,H⟩:=ob H
      refine jA ⟨[(3,tP 0),(4,tP 1),(6,tP 3),(10,.v (.c (.w 9 v14.length)))],(oM [.w 4,.w 5,.w 6] 0 60 (cy {r3 with d9:=v8,dS:=v15,bO:=r7.2})++(oM [.w 7] 1 66 (cM r7.1)++[(3,.var 190 (kM [.z,.z,.z,.z,.z,.z] (b9 cU))),(9,w76 v14)])),10⟩ ?_ ?_
      ·have H:=Hj
       refine cC H ?_ ?_<;>intro H
       ·obtain⟨r16,q16,H⟩:=ob H
        refine nA (ca (hF:=uy q16)) ?_
        cases H
        exact wo
       ·cases H
        refine aq (wN (nx':=10) rfl) ?_
        refine aq (wS 9 8) ?_
        exact wo
      cases H
      refine aq (wS 8 9) ?_
      exact wo
    obtain⟨r17,q17,H⟩:=ob H
    refine nA (ca (hF:=Ao q17)) ?_
    obtain⟨h,H⟩:=rq H
    refine sA (apT (enc:=dN) (ys:=v12) (zs:=r17.b7) h) ?_
    cases H
    exact ah
  ·obtain⟨v18,Hj,H⟩:=ob H
   refine jA ⟨[(3,tP 0),(4,tP 1),(5,tP 2),(6,tP 3),(9,tB (ltB 0 ((r3.an.aw.length:Nat):Int)))],(oM [.w 4,.w 5,.w 6] 0 60 (cy {r3 with d9:=v18})++[(1,.var 66 (kM [.f] (cM a1))),(2,.var 26 [.d false (.l (a2.aX.map dP))]),(3,.var 190 (kM [.z,.z,.z,.z,.z,.z] (b9 cU)))]),7⟩ ?_ ?_
   ·have H:=Hj
    refine cC H ?_ ?_<;>intro H
    ·obtain⟨r19,q19,H⟩:=ob H
     refine nA (ca (hF:=xp q19)) ?_
     cases H
     exact wo
    ·cases H
     exact wo
   refine cC H ?_ ?_<;>intro H
   ·obtain⟨r20,q20,H⟩:=ob H
    refine nA (ca (hF:=AH q20)) ?_
    cases H
    exact ah
   ·obtain⟨v21,Hj,H⟩:=ob H
    refine jR ⟨[(3,tP 0),(4,tP 1),(6,tP 3),(9,tB (ltB 0 ((r3.an.aw.length:Nat):Int))),(10,.v (.c (.w 7 (([]:List av).length)))),(61,tB v21)],(oM [.w 4,.w 5,.w 6] 0 60 (cy {r3 with d9:=v18})++[(1,.var 66 (kM [.f] (cM a1))),(3,.var 190 (kM [.z,.z,.z,.z,.z,.z] (b9 cU))),(7,w76 ([]:List av))]),8⟩ ?_ ?_
    ·have H:=Hj
     refine gC H ?_ ?_<;>intro H
     ·cases H
      exact wo
     ·cases H
      exact wo
    obtain⟨⟨v22,v23⟩,Hj,H⟩:=ob H
    refine jA ⟨[(3,tP 0),(4,tP 1),(6,tP 3),(10,.v (.c (.w 7 v22.length)))],(oM [.w 4,.w 5,.w 6] 0 60 (cy {r3 with d9:=v18,dS:=v23})++[(1,.var 66 (kM [.f] (cM a1))),(3,.var 190 (kM [.z,.z,.z,.z,.z,.z] (b9 cU))),(7,w76 v22)]),8⟩ ?_ ?_
    ·have H:=Hj
     refine cC H ?_ ?_<;>intro H
     ·cases H
      exact wo
     ·obtain⟨⟨v24,v25⟩,Hj,H⟩:=ob H
      refine jA ⟨[(3,tP 0),(4,tP 1),(6,tP 3),(10,.v (.c (.w 8 v24.length)))],(oM [.w 4,.w 5,.w 6] 0 60 (cy {r3 with d9:=v18,dS:=v25})++[(1,.var 66 (kM [.f] (cM a1))),(3,.var 190 (kM [.z,.z,.z,.z,.z,.z] (b9 cU))),(8,w76 v24)]),9⟩ ?_ ?_
      ·have H:=Hj
       refine cC H ?_ ?_<;>intro H
       ·obtain⟨r26,q26,H⟩:=ob H
        refine nA (ca (hF:=uy q26)) ?_
        cases H
        exact wo
       ·cases H
        refine aq (wN (nx':=9) rfl) ?_
        refine aq (wS 8 7) ?_
        exact wo
      cases H
      refine aq (wS 7 8) ?_
      exact wo
    obtain⟨r27,q27,H⟩:=ob H
    refine nA (ca (hF:=Ao q27)) ?_
    obtain⟨h,H⟩:=rq H
    refine sA (apT (enc:=dN) (ys:=v22) (zs:=r27.b7) h) ?_
    cases H
    exact ah
end Go.AM
