/- A part. -/
import Derived.Test.YtigcecmbknoijaaGreatDoorS10
import Derived.Test.YtigcecmbknoijaaGreatDoorS11
import Derived.Test.YtigcecmbknoijaaGreatDoorS12
set_option linter.unusedVariables false
open Option renaming some->ς,none->ξ
open Bool renaming true->ζ,false->η
open True renaming intro->θ
open Option renaming bind->ZU
namespace Go.AM
open Go.Proofs
open Tryz
attribute [local irreducible] AWN NS AWO AWR AWC DR DZ cM eN iter
set_option maxRecDepth 100000
set_option maxHeartbeats 40000000
def zy7(a0:ah):(Int×cp)->Option (cH (Int×cp) (cp))
 |(v3,v39)=>ZU (cond (ltB v3 2) (cond (leB v39.bb.aK.bF (a0.aU.length:Int)) (ς (ltB (v39.bb.aK.aM.length:Int) 8)) (ς η)) (ς η)) λ(v40:Bool)=>cond v40 (ZU (ix a0.aU (WR (v39.bb.aK.bF-1))) λx41=>ZU (pt v39.bb v39.fk (x41.bm.length:Int)) λr42=>ZU (mW r42.1 (x41.bm.length:Int)) λr43=>cond (ltB 0 r43) (dn (ς {v39 with bb:=r42.1,fk:=r42.2})) (ZU (iA r42.1.aK x41.bm) λr44=>cond r44.2.2 (ZU (vM a0 r44.2.1) λr45=>cond (cN 64 (v39.cA++[r45]).length) (ς (.next (WR (v3+1),(⟨{r42.1 with aK:=r44.1},r42.2,v39.nJ,(v39.cA++[r45])⟩:cp)))) ξ) (dn (ς {v39 with bb:=r42.1,fk:=r42.2})))) (dn (ς v39))
def zy8(a0:ah)(a1:an):Option cp:=
 ZU (qv a0 a1) λr1=>ZU (vK a0) λr2=>cond r2 (ς r1) (iter (zy7 a0) FU (0,r1))
instance zy9{a0:ah}{a1:an}{r:cp}:FC prog (zy8 a0 a1=ς r) 224 [.agg (cQ a0),.agg (dX a1)] [.agg (qM [.o,.o,.o,.o,.o,.o] (dH r))]:=⟨λH=>by
 refine fI func224 ntmps224 ?_
 refine aa H λr1 q1 H=>nA (ca (hF:=CM.h q1)) ?_
 refine aa H λr2 q2 H=>nA (ca (hF:=CL.h q2)) ?_
 refine cC H ?_ ?_<;>intro H
 .exact ao H
 refine iT H (λq=>⟨[(2,tP 0),(4,tP 2),(5,tP 9),(6,tI q.1)],(oM [.w 3,.w 4,.w 5,.w 6,.w 7,.w 8] 9 265 (dH q.2)++[(0,.var 76 (kM [.f,.f,.f] (df a0))),(2,.var 265 (kM [.z,.z,.z,.z,.z,.z] (dH dT)))]),10⟩) ?_
 rintro⟨v3,v39⟩ o H
 refine ad ?_
 refine aa H λv40 Hj H=>jR ⟨[(2,tP 0),(4,tP 2),(5,tP 9),(6,tI v3),(38,tB v40)],(oM [.w 3,.w 4,.w 5,.w 6,.w 7,.w 8] 9 265 (dH v39)++[(0,.var 76 (kM [.f,.f,.f] (df a0))),(2,.var 265 (kM [.z,.z,.z,.z,.z,.z] (dH dT)))]),10⟩ ?_ ?_
 .exact az Hj
 refine cC H ?_ ?_<;>intro H
 .refine aa H λx41 hx41 H=>nA (xdT (enc:=er) hx41) ?_
  refine aa H λr42 q42 H=>nA (ca (hF:=Cp.h q42)) ?_
  refine aa H λr43 q43 H=>nA (ca (hF:=Cu.h q43)) ?_
  refine cC H ?_ ?_<;>intro H
  .exact aQ H
  obtain⟨r44,q44,H⟩:=ob H
  rcases hb:r44.2.2 with _|_
  .have H:=bf hb H
   refine o6 rfl (ca (hF:=vp q44 hb)) ?_
   simp only[hb]
   refine wI ?_
   exact aQ H
  have H:=bt hb H
  refine o6 rfl (ca (hF:=vq q44 hb)) ?_
  simp only[hb]
  refine wI ?_
  refine zI (List.range 9) ?_
  refine aa H λr45 q45 H=>zA (ca (hF:=(Kr.h q45).frzs (by repeat (first|exact θ|refine⟨?_,?_⟩|exact lm _|rfl)))) ?_
  obtain⟨h,H⟩:=rq H
  refine zB cz (kh rfl (apT (enc:=ev) (ys:=v39.cA) (zs:=[r45]) h)) cz ?_
  refine wA (spx 100822) ?_
  cases H
  refine qF ?_
  refine aJ (wS 3 10) ?_
  refine aJ (wS 4 11) ?_
  refine aJ (wS 5 16) ?_
  refine aJ (wS 6 13) ?_
  exact wo
 refine aR H λH=>?_
 cases H
 exact dK⟩
def pD(a0:ah)(a1:an)(a2:bi):Option cp:=
 ZU (vK a0) λr1=>cond r1 (ZU (qv a0 a1) λr2=>ς r2) (ZU (iF a0) λr3=>cond (leB r3.jj.fF r3.ci.fK) (ZU (pw a1 r3.ci) λr7=>ZU (cond (ltB 0 (r3.aK.aM.length:Int)) (ZU (Cs 5 (WR (r3.eg+1))) λr9=>ς r9) (ς 0)) λ(v8:Int)=>cond (ltB 4 v8) (ZU (vL {r3 with eg:=v8,ci:=r7.2} r7.1 a2) λr10=>ς r10) (ZU (cond (ltB 0 (r3.aK.aM.length:Int)) (ς (ltB 0 r3.d9)) (ς η)) λ(v11:Bool)=>ZU (cond v11 (ς (([]:List aF),WR (r3.d9-1))) (ZU (cond (ltB 0 (r3.aK.aM.length:Int)) (ZU (ml {r3 with eg:=v8,d9:=3,ci:=r7.2}) λr16=>ς (r16,3)) (ς (([]:List aF),r3.d9))) λ((v14,v15):List aF×Int)=>ς (v14,v15))) λ((v12,v13):List aF×Int)=>ZU (zy8 {r3 with eg:=v8,d9:=v13,ci:=r7.2} r7.1) λr17=>cond (cN 64 (v12++r17.cA).length) (ς {r17 with cA:=(v12++r17.cA)}) ξ)) (ZU (cond (ltB 0 (r3.aK.aM.length:Int)) (ZU (Cs 5 (WR (r3.eg+1))) λr19=>ς r19) (ς 0)) λ(v18:Int)=>cond (ltB 4 v18) (ZU (vL {r3 with eg:=v18} a1 a2) λr20=>ς r20) (ZU (cond (ltB 0 (r3.aK.aM.length:Int)) (ς (ltB 0 r3.d9)) (ς η)) λ(v21:Bool)=>ZU (cond v21 (ς (([]:List aF),WR (r3.d9-1))) (ZU (cond (ltB 0 (r3.aK.aM.length:Int)) (ZU (ml {r3 with eg:=v18,d9:=3}) λr26=>ς (r26,3)) (ς (([]:List aF),r3.d9))) λ((v24,v25):List aF×Int)=>ς (v24,v25))) λ((v22,v23):List aF×Int)=>ZU (zy8 {r3 with eg:=v18,d9:=v23} a1) λr27=>cond (cN 64 (v22++r27.cA).length) (ς {r27 with cA:=(v22++r27.cA)}) ξ)))
instance zy10{a0:ah}{a1:an}{a2:bi}{r:cp}:FC prog (pD a0 a1 a2=ς r) 191 [.agg (cQ a0),.agg (dX a1),.agg (nR a2)] [.agg (qM [.o,.o,.o,.o,.o,.o] (dH r))]:=⟨λH=>by
 refine fI func191 ntmps191 ?_
 refine aa H λr1 q1 H=>nA (ca (hF:=CL.h q1)) ?_
 refine cC H ?_ ?_<;>intro H
 .refine aa H λr2 q2 H=>nA (ca (hF:=CM.h q2)) ?_
  exact ao H
 refine aa H λr3 q3 H=>nA (ca (hF:=Kq.h q3)) ?_
 refine cC H ?_ ?_<;>intro H
 .refine aa H λr7 q7 H=>nA (ca (hF:=Cv.h q7)) ?_
  refine aa H λv8 Hj H=>jA ⟨[(3,tP 0),(4,tP 1),(5,tP 2),(6,tP 3),(9,tB (ltB 0 (r3.aK.aM.length:Int)))],(oM [.w 4,.w 5,.w 6] 0 76 (df {r3 with eg:=v8,ci:=r7.2})++(oM [.w 7] 1 26 (du r7.1)++[(2,.var 35 [.d η (.l (a2.bI.map fw))]),(3,.var 265 (kM [.z,.z,.z,.z,.z,.z] (dH dT)))])),10⟩ ?_ ?_
  .refine cC Hj ?_ ?_<;>intro H
   .refine aa H λr9 q9 H=>nA (ca (hF:=Gg.h q9)) ?_
    exact ai H
   exact ai H
  refine cC H ?_ ?_<;>intro H
  .refine aa H λr10 q10 H=>nA (ca (hF:=CN.h q10)) ?_
   exact ao H
  refine aa H λv11 Hj H=>jR ⟨[(3,tP 0),(4,tP 1),(6,tP 3),(9,tB (ltB 0 (r3.aK.aM.length:Int))),(10,.v (.c (.w 10 (([]:List aF).length)))),(61,tB v11)],(oM [.w 4,.w 5,.w 6] 0 76 (df {r3 with eg:=v8,ci:=r7.2})++(oM [.w 7] 1 26 (du r7.1)++[(3,.var 265 (kM [.z,.z,.z,.z,.z,.z] (dH dT))),(10,w83 ([]:List aF))])),11⟩ ?_ ?_
  .exact az Hj
  obtain⟨⟨v12,v13⟩,Hj,H⟩:=ob H
  refine jA ⟨[(3,tP 0),(4,tP 1),(6,tP 3),(10,.v (.c (.w 10 v12.length)))],(oM [.w 4,.w 5,.w 6] 0 76 (df {r3 with eg:=v8,d9:=v13,ci:=r7.2})++(oM [.w 7] 1 26 (du r7.1)++[(3,.var 265 (kM [.z,.z,.z,.z,.z,.z] (dH dT))),(10,w83 v12)])),11⟩ ?_ ?_
  .refine cC Hj ?_ ?_<;>intro H
   .exact ai H
   obtain⟨⟨v14,v15⟩,Hj,H⟩:=ob H
   refine jA ⟨[(3,tP 0),(4,tP 1),(6,tP 3),(10,.v (.c (.w 11 v14.length)))],(oM [.w 4,.w 5,.w 6] 0 76 (df {r3 with eg:=v8,d9:=v15,ci:=r7.2})++(oM [.w 7] 1 26 (du r7.1)++[(3,.var 265 (kM [.z,.z,.z,.z,.z,.z] (dH dT))),(11,w83 v14)])),12⟩ ?_ ?_
   .refine cC Hj ?_ ?_<;>intro H
    .refine aa H λr16 q16 H=>nA (ca (hF:=xj.h q16)) ?_
     exact ai H
    cases H
    refine aJ (wM (nx':=12) rfl) ?_
    refine aJ (wS 11 10) ?_
    exact wo
   cases H
   refine aJ (wS 10 11) ?_
   exact wo
  refine aa H λr17 q17 H=>nA (ca (hF:=zy9.h q17)) ?_
  obtain⟨h,H⟩:=rq H
  refine sA (apT (enc:=ev) (ys:=v12) (zs:=r17.cA) h) ?_
  exact ao H
 refine aa H λv18 Hj H=>jA ⟨[(3,tP 0),(4,tP 1),(5,tP 2),(6,tP 3),(9,tB (ltB 0 (r3.aK.aM.length:Int)))],(oM [.w 4,.w 5,.w 6] 0 76 (df {r3 with eg:=v18})++[(1,.var 26 (kM [.f] (du a1))),(2,.var 35 [.d η (.l (a2.bI.map fw))]),(3,.var 265 (kM [.z,.z,.z,.z,.z,.z] (dH dT)))]),7⟩ ?_ ?_
 .refine cC Hj ?_ ?_<;>intro H
  .refine aa H λr19 q19 H=>nA (ca (hF:=Gg.h q19)) ?_
   exact ai H
  exact ai H
 refine cC H ?_ ?_<;>intro H
 .refine aa H λr20 q20 H=>nA (ca (hF:=CN.h q20)) ?_
  exact ao H
 refine aa H λv21 Hj H=>jR ⟨[(3,tP 0),(4,tP 1),(6,tP 3),(9,tB (ltB 0 (r3.aK.aM.length:Int))),(10,.v (.c (.w 7 (([]:List aF).length)))),(61,tB v21)],(oM [.w 4,.w 5,.w 6] 0 76 (df {r3 with eg:=v18})++[(1,.var 26 (kM [.f] (du a1))),(3,.var 265 (kM [.z,.z,.z,.z,.z,.z] (dH dT))),(7,w83 ([]:List aF))]),8⟩ ?_ ?_
 .exact az Hj
 obtain⟨⟨v22,v23⟩,Hj,H⟩:=ob H
 refine jA ⟨[(3,tP 0),(4,tP 1),(6,tP 3),(10,.v (.c (.w 7 v22.length)))],(oM [.w 4,.w 5,.w 6] 0 76 (df {r3 with eg:=v18,d9:=v23})++[(1,.var 26 (kM [.f] (du a1))),(3,.var 265 (kM [.z,.z,.z,.z,.z,.z] (dH dT))),(7,w83 v22)]),8⟩ ?_ ?_
 .refine cC Hj ?_ ?_<;>intro H
  .exact ai H
  obtain⟨⟨v24,v25⟩,Hj,H⟩:=ob H
  refine jA ⟨[(3,tP 0),(4,tP 1),(6,tP 3),(10,.v (.c (.w 8 v24.length)))],(oM [.w 4,.w 5,.w 6] 0 76 (df {r3 with eg:=v18,d9:=v25})++[(1,.var 26 (kM [.f] (du a1))),(3,.var 265 (kM [.z,.z,.z,.z,.z,.z] (dH dT))),(8,w83 v24)]),9⟩ ?_ ?_
  .refine cC Hj ?_ ?_<;>intro H
   .refine aa H λr26 q26 H=>nA (ca (hF:=xj.h q26)) ?_
    exact ai H
   cases H
   refine aJ (wM (nx':=9) rfl) ?_
   refine aJ (wS 8 7) ?_
   exact wo
  cases H
  refine aJ (wS 7 8) ?_
  exact wo
 refine aa H λr27 q27 H=>nA (ca (hF:=zy9.h q27)) ?_
 obtain⟨h,H⟩:=rq H
 refine sA (apT (enc:=ev) (ys:=v22) (zs:=r27.cA) h) ?_
 cases H
 exact dK⟩
end Go.AM
