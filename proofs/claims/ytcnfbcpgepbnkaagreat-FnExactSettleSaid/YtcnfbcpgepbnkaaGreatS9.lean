/- A part. -/
import Derived.Test.YtcnfbcpgepbnkaaGreatS6
import Derived.Test.YtcnfbcpgepbnkaaGreatS7
import Derived.Test.YtcnfbcpgepbnkaaGreatS8
set_option linter.unusedVariables false
open Option renaming some->ς,none->ξ
open Bool renaming true->ζ,false->η
open True renaming intro->θ
open Option renaming bind->aeP
namespace Go.AM
open Go.Proofs
open Tryz
attribute [local irreducible] AWN NS AWO AWR AWC DR DZ cO eB iter
set_option maxRecDepth 100000
set_option maxHeartbeats 40000000
def vd(a0:ag):(Int×bk)->Option (bJ (Int×bk) (bk))
 |(v3,v39)=>aeP (cond (ltB v3 2) (cond (leB v39.aX.aC.bw (a0.aS.length:Int)) (ς (ltB (v39.aX.aC.ar.length:Int) 8)) (ς η)) (ς η)) λ(v40:Bool)=>cond v40 (aeP (ix a0.aS (WR (v39.aX.aC.bw-1))) λx41=>aeP (sK v39.aX v39.eu (x41.be.length:Int)) λr42=>aeP (pq r42.1 (x41.be.length:Int)) λr43=>cond (ltB 0 r43) (dn (ς {v39 with aX:=r42.1,eu:=r42.2})) (aeP (ra r42.1.aC x41.be) λr44=>cond r44.2.2 (aeP (Ak a0 r44.2.1) λr45=>cond (c8 64 (v39.cF++[r45]).length) (ς (.next (WR (v3+1),(⟨{r42.1 with aC:=r44.1},r42.2,v39.ou,(v39.cF++[r45])⟩:bk)))) ξ) (dn (ς {v39 with aX:=r42.1,eu:=r42.2})))) (dn (ς v39))
def Aa(a0:ag)(a1:aj):Option bk:=
 aeP (ut a0 a1) λr1=>aeP (Ai a0) λr2=>cond r2 (ς r1) (iter (vd a0) FU (0,r1))
instance IU{a0:ag}{a1:aj}{r:bk}:FC prog (Aa a0 a1=ς r) 271 [.agg (aM a0),.agg (bj a1)] [.agg (qM [.o,.o,.o,.o,.o,.o] (bv r))]:=⟨λH=>by
 refine fI func271 ntmps271 ?_
 refine aa H λr1 q1 H=>nA (ca (hF:=Jc.h q1)) ?_
 refine aa H λr2 q2 H=>nA (ca (hF:=Jb.h q2)) ?_
 refine cC H ?_ ?_<;>intro H
 .exact ao H
 refine iT H (λq=>⟨[(2,tP 0),(4,tP 2),(5,tP 9),(6,tI q.1)],(oM [.w 3,.w 4,.w 5,.w 6,.w 7,.w 8] 9 185 (bv q.2)++[(0,.var 140 (kM [.f,.f,.f] (dh a0))),(2,.var 185 (kM [.z,.z,.z,.z,.z,.z] (bv bU)))]),10⟩) ?_
 rintro⟨v3,v39⟩ o H
 refine ad ?_
 refine aa H λv40 Hj H=>jR ⟨[(2,tP 0),(4,tP 2),(5,tP 9),(6,tI v3),(38,tB v40)],(oM [.w 3,.w 4,.w 5,.w 6,.w 7,.w 8] 9 185 (bv v39)++[(0,.var 140 (kM [.f,.f,.f] (dh a0))),(2,.var 185 (kM [.z,.z,.z,.z,.z,.z] (bv bU)))]),10⟩ ?_ ?_
 .exact az Hj
 refine cC H ?_ ?_<;>intro H
 .refine aa H λx41 hx41 H=>nA (xdT (enc:=b9) hx41) ?_
  refine aa H λr42 q42 H=>nA (ca (hF:=IP.h q42)) ?_
  refine aa H λr43 q43 H=>nA (ca (hF:=IS.h q43)) ?_
  refine cC H ?_ ?_<;>intro H
  .exact aQ H
  obtain⟨r44,q44,H⟩:=ob H
  rcases hb:r44.2.2 with _|_
  .have H:=bf hb H
   refine Bn rfl (ca (hF:=IV q44 hb)) ?_
   simp only[hb]
   refine wI ?_
   exact aQ H
  have H:=bt hb H
  refine Bn rfl (ca (hF:=IW q44 hb)) ?_
  simp only[hb]
  refine wI ?_
  refine zI (List.range 9) ?_
  refine aa H λr45 q45 H=>zA (ca (hF:=(RD.h q45).frzs (by repeat (first|exact θ|refine⟨?_,?_⟩|exact lm _|rfl)))) ?_
  obtain⟨h,H⟩:=rq H
  refine zB dH (tj rfl (apT (enc:=cQ) (ys:=v39.cF) (zs:=[r45]) h)) dH ?_
  refine wA (spx 100288) ?_
  cases H
  refine yH ?_
  refine aK (wS 3 10) ?_
  refine aK (wS 4 11) ?_
  refine aK (wS 5 16) ?_
  refine aK (wS 6 13) ?_
  exact wo
 refine aR H λH=>?_
 cases H
 exact iw⟩
def sP(a0:ag)(a1:aj)(a2:aU):Option bk:=
 aeP (Ai a0) λr1=>cond r1 (aeP (ut a0 a1) λr2=>ς r2) (aeP (kN a0) λr3=>cond (leB r3.fr.dR r3.bM.et) (aeP (sN a1 r3.bM) λr7=>aeP (cond (ltB 0 (r3.aC.ar.length:Int)) (aeP (Pw 5 (WR (r3.dy+1))) λr9=>ς r9) (ς 0)) λ(v8:Int)=>cond (ltB 4 v8) (aeP (Aj {r3 with dy:=v8,bM:=r7.2} r7.1 a2) λr10=>ς r10) (aeP (cond (ltB 0 (r3.aC.ar.length:Int)) (ς (ltB 0 r3.du)) (ς η)) λ(v11:Bool)=>aeP (cond v11 (ς (([]:List am),WR (r3.du-1))) (aeP (cond (ltB 0 (r3.aC.ar.length:Int)) (aeP (oi {r3 with dy:=v8,du:=3,bM:=r7.2}) λr16=>ς (r16,3)) (ς (([]:List am),r3.du))) λ((v14,v15):List am×Int)=>ς (v14,v15))) λ((v12,v13):List am×Int)=>aeP (Aa {r3 with dy:=v8,du:=v13,bM:=r7.2} r7.1) λr17=>cond (c8 64 (v12++r17.cF).length) (ς {r17 with cF:=(v12++r17.cF)}) ξ)) (aeP (cond (ltB 0 (r3.aC.ar.length:Int)) (aeP (Pw 5 (WR (r3.dy+1))) λr19=>ς r19) (ς 0)) λ(v18:Int)=>cond (ltB 4 v18) (aeP (Aj {r3 with dy:=v18} a1 a2) λr20=>ς r20) (aeP (cond (ltB 0 (r3.aC.ar.length:Int)) (ς (ltB 0 r3.du)) (ς η)) λ(v21:Bool)=>aeP (cond v21 (ς (([]:List am),WR (r3.du-1))) (aeP (cond (ltB 0 (r3.aC.ar.length:Int)) (aeP (oi {r3 with dy:=v18,du:=3}) λr26=>ς (r26,3)) (ς (([]:List am),r3.du))) λ((v24,v25):List am×Int)=>ς (v24,v25))) λ((v22,v23):List am×Int)=>aeP (Aa {r3 with dy:=v18,du:=v23} a1) λr27=>cond (c8 64 (v22++r27.cF).length) (ς {r27 with cF:=(v22++r27.cF)}) ξ)))
instance ZD{a0:ag}{a1:aj}{a2:aU}{r:bk}:FC prog (sP a0 a1 a2=ς r) 182 [.agg (aM a0),.agg (bj a1),.agg (eh a2)] [.agg (qM [.o,.o,.o,.o,.o,.o] (bv r))]:=⟨λH=>by
 refine fI func182 ntmps182 ?_
 refine aa H λr1 q1 H=>nA (ca (hF:=Jb.h q1)) ?_
 refine cC H ?_ ?_<;>intro H
 .refine aa H λr2 q2 H=>nA (ca (hF:=Jc.h q2)) ?_
  exact ao H
 refine aa H λr3 q3 H=>nA (ca (hF:=RB.h q3)) ?_
 refine cC H ?_ ?_<;>intro H
 .refine aa H λr7 q7 H=>nA (ca (hF:=IT.h q7)) ?_
  refine aa H λv8 Hj H=>jA ⟨[(3,tP 0),(4,tP 1),(5,tP 2),(6,tP 3),(9,tB (ltB 0 (r3.aC.ar.length:Int)))],(oM [.w 4,.w 5,.w 6] 0 140 (dh {r3 with dy:=v8,bM:=r7.2})++(oM [.w 7] 1 144 (cp r7.1)++[(2,.var 36 [.d η (.l (a2.bh.map de))]),(3,.var 185 (kM [.z,.z,.z,.z,.z,.z] (bv bU)))])),10⟩ ?_ ?_
  .refine cC Hj ?_ ?_<;>intro H
   .refine aa H λr9 q9 H=>nA (ca (hF:=Zw.h q9)) ?_
    exact ai H
   exact ai H
  refine cC H ?_ ?_<;>intro H
  .refine aa H λr10 q10 H=>nA (ca (hF:=Jd.h q10)) ?_
   exact ao H
  refine aa H λv11 Hj H=>jR ⟨[(3,tP 0),(4,tP 1),(6,tP 3),(9,tB (ltB 0 (r3.aC.ar.length:Int))),(10,.v (.c (.w 10 (([]:List am).length)))),(61,tB v11)],(oM [.w 4,.w 5,.w 6] 0 140 (dh {r3 with dy:=v8,bM:=r7.2})++(oM [.w 7] 1 144 (cp r7.1)++[(3,.var 185 (kM [.z,.z,.z,.z,.z,.z] (bv bU))),(10,Fa ([]:List am))])),11⟩ ?_ ?_
  .exact az Hj
  obtain⟨⟨v12,v13⟩,Hj,H⟩:=ob H
  refine jA ⟨[(3,tP 0),(4,tP 1),(6,tP 3),(10,.v (.c (.w 10 v12.length)))],(oM [.w 4,.w 5,.w 6] 0 140 (dh {r3 with dy:=v8,du:=v13,bM:=r7.2})++(oM [.w 7] 1 144 (cp r7.1)++[(3,.var 185 (kM [.z,.z,.z,.z,.z,.z] (bv bU))),(10,Fa v12)])),11⟩ ?_ ?_
  .refine cC Hj ?_ ?_<;>intro H
   .exact ai H
   obtain⟨⟨v14,v15⟩,Hj,H⟩:=ob H
   refine jA ⟨[(3,tP 0),(4,tP 1),(6,tP 3),(10,.v (.c (.w 11 v14.length)))],(oM [.w 4,.w 5,.w 6] 0 140 (dh {r3 with dy:=v8,du:=v15,bM:=r7.2})++(oM [.w 7] 1 144 (cp r7.1)++[(3,.var 185 (kM [.z,.z,.z,.z,.z,.z] (bv bU))),(11,Fa v14)])),12⟩ ?_ ?_
   .refine cC Hj ?_ ?_<;>intro H
    .refine aa H λr16 q16 H=>nA (ca (hF:=By.h q16)) ?_
     exact ai H
    cases H
    refine aK (A8 (nx':=12) rfl) ?_
    refine aK (wS 11 10) ?_
    exact wo
   cases H
   refine aK (wS 10 11) ?_
   exact wo
  refine aa H λr17 q17 H=>nA (ca (hF:=IU.h q17)) ?_
  obtain⟨h,H⟩:=rq H
  refine sA (apT (enc:=cQ) (ys:=v12) (zs:=r17.cF) h) ?_
  exact ao H
 refine aa H λv18 Hj H=>jA ⟨[(3,tP 0),(4,tP 1),(5,tP 2),(6,tP 3),(9,tB (ltB 0 (r3.aC.ar.length:Int)))],(oM [.w 4,.w 5,.w 6] 0 140 (dh {r3 with dy:=v18})++[(1,.var 144 (kM [.f] (cp a1))),(2,.var 36 [.d η (.l (a2.bh.map de))]),(3,.var 185 (kM [.z,.z,.z,.z,.z,.z] (bv bU)))]),7⟩ ?_ ?_
 .refine cC Hj ?_ ?_<;>intro H
  .refine aa H λr19 q19 H=>nA (ca (hF:=Zw.h q19)) ?_
   exact ai H
  exact ai H
 refine cC H ?_ ?_<;>intro H
 .refine aa H λr20 q20 H=>nA (ca (hF:=Jd.h q20)) ?_
  exact ao H
 refine aa H λv21 Hj H=>jR ⟨[(3,tP 0),(4,tP 1),(6,tP 3),(9,tB (ltB 0 (r3.aC.ar.length:Int))),(10,.v (.c (.w 7 (([]:List am).length)))),(61,tB v21)],(oM [.w 4,.w 5,.w 6] 0 140 (dh {r3 with dy:=v18})++[(1,.var 144 (kM [.f] (cp a1))),(3,.var 185 (kM [.z,.z,.z,.z,.z,.z] (bv bU))),(7,Fa ([]:List am))]),8⟩ ?_ ?_
 .exact az Hj
 obtain⟨⟨v22,v23⟩,Hj,H⟩:=ob H
 refine jA ⟨[(3,tP 0),(4,tP 1),(6,tP 3),(10,.v (.c (.w 7 v22.length)))],(oM [.w 4,.w 5,.w 6] 0 140 (dh {r3 with dy:=v18,du:=v23})++[(1,.var 144 (kM [.f] (cp a1))),(3,.var 185 (kM [.z,.z,.z,.z,.z,.z] (bv bU))),(7,Fa v22)]),8⟩ ?_ ?_
 .refine cC Hj ?_ ?_<;>intro H
  .exact ai H
  obtain⟨⟨v24,v25⟩,Hj,H⟩:=ob H
  refine jA ⟨[(3,tP 0),(4,tP 1),(6,tP 3),(10,.v (.c (.w 8 v24.length)))],(oM [.w 4,.w 5,.w 6] 0 140 (dh {r3 with dy:=v18,du:=v25})++[(1,.var 144 (kM [.f] (cp a1))),(3,.var 185 (kM [.z,.z,.z,.z,.z,.z] (bv bU))),(8,Fa v24)]),9⟩ ?_ ?_
  .refine cC Hj ?_ ?_<;>intro H
   .refine aa H λr26 q26 H=>nA (ca (hF:=By.h q26)) ?_
    exact ai H
   cases H
   refine aK (A8 (nx':=9) rfl) ?_
   refine aK (wS 8 7) ?_
   exact wo
  cases H
  refine aK (wS 7 8) ?_
  exact wo
 refine aa H λr27 q27 H=>nA (ca (hF:=IU.h q27)) ?_
 obtain⟨h,H⟩:=rq H
 refine sA (apT (enc:=cQ) (ys:=v22) (zs:=r27.cF) h) ?_
 cases H
 exact iw⟩
end Go.AM
