/- A part. -/
import Derived.Test.YtgbcdgihmgapeaaGreatS10
import Derived.Test.YtgbcdgihmgapeaaGreatS11
import Derived.Test.YtgbcdgihmgapeaaGreatS12
import Derived.Test.YtgbcdgihmgapeaaGreatS13
set_option linter.unusedVariables false
open Option renaming some->ς,none->ξ
open Bool renaming true->ζ,false->η
open True renaming intro->θ
open Option renaming bind->abd
namespace Go.AM
open Go.Proofs
open Tryz
attribute [local irreducible] AWN NS AWO AWR AWC DR DZ cB eZ iter
set_option maxRecDepth 100000
set_option maxHeartbeats 40000000
def rC(a0:ah):(Int×b8)->Option (ct (Int×b8) (b8))
 |(v3,v39)=>abd (cond (ltB v3 2) (cond (leB v39.a8.ax.bC (a0.av.length:Int)) (ς (ltB (v39.a8.ax.aG.length:Int) 8)) (ς η)) (ς η)) λ(v40:Bool)=>cond v40 (abd (ix a0.av (WR (v39.a8.ax.bC-1))) λx41=>abd (pp v39.a8 v39.eo (x41.bb.length:Int)) λr42=>abd (mC r42.1 (x41.bb.length:Int)) λr43=>cond (ltB 0 r43) (dn (ς {v39 with a8:=r42.1,eo:=r42.2})) (abd (ov r42.1.ax x41.bb) λr44=>cond r44.2.2 (abd (vl a0 r44.2.1) λr45=>cond (cW 64 (v39.cz++[r45]).length) (ς (.next (WR (v3+1),(⟨{r42.1 with ax:=r44.1},r42.2,v39.lF,(v39.cz++[r45])⟩:b8)))) ξ) (dn (ς {v39 with a8:=r42.1,eo:=r42.2})))) (dn (ς v39))
def ve(a0:ah)(a1:am):Option b8:=
 abd (qH a0 a1) λr1=>abd (vj a0) λr2=>cond r2 (ς r1) (iter (rC a0) FU (0,r1))
instance CC{a0:ah}{a1:am}{r:b8}:FC prog (ve a0 a1=ς r) 142 [.agg (cO a0),.agg (cS a1)] [.agg (qM [.o,.o,.o,.o,.o,.o] (dm r))]:=⟨λH=>by
 refine fI func142 ntmps142 ?_
 refine aa H λr1 q1 H=>nA (ca (hF:=CQ.h q1)) ?_
 refine aa H λr2 q2 H=>nA (ca (hF:=CP.h q2)) ?_
 refine cC H ?_ ?_<;>intro H
 .exact ao H
 refine iT H (λq=>⟨[(2,tP 0),(4,tP 2),(5,tP 9),(6,tI q.1)],(oM [.w 3,.w 4,.w 5,.w 6,.w 7,.w 8] 9 148 (dm q.2)++[(0,.var 87 (kM [.f,.f,.f] (eC a0))),(2,.var 148 (kM [.z,.z,.z,.z,.z,.z] (dm dB)))]),10⟩) ?_
 rintro⟨v3,v39⟩ o H
 refine ad ?_
 refine aa H λv40 Hj H=>jR ⟨[(2,tP 0),(4,tP 2),(5,tP 9),(6,tI v3),(38,tB v40)],(oM [.w 3,.w 4,.w 5,.w 6,.w 7,.w 8] 9 148 (dm v39)++[(0,.var 87 (kM [.f,.f,.f] (eC a0))),(2,.var 148 (kM [.z,.z,.z,.z,.z,.z] (dm dB)))]),10⟩ ?_ ?_
 .exact az Hj
 refine cC H ?_ ?_<;>intro H
 .refine aa H λx41 hx41 H=>nA (xdT (enc:=de) hx41) ?_
  refine aa H λr42 q42 H=>nA (ca (hF:=Ct.h q42)) ?_
  refine aa H λr43 q43 H=>nA (ca (hF:=CA.h q43)) ?_
  refine cC H ?_ ?_<;>intro H
  .exact aQ H
  obtain⟨r44,q44,H⟩:=ob H
  rcases hb:r44.2.2 with _|_
  .have H:=bf hb H
   refine uJ rfl (ca (hF:=CD q44 hb)) ?_
   simp only[hb]
   refine wI ?_
   exact aQ H
  have H:=bt hb H
  refine uJ rfl (ca (hF:=CE q44 hb)) ?_
  simp only[hb]
  refine wI ?_
  refine zI (List.range 9) ?_
  refine aa H λr45 q45 H=>zA (ca (hF:=(KY.h q45).frzs (by repeat (first|exact θ|refine⟨?_,?_⟩|exact lm _|rfl)))) ?_
  obtain⟨h,H⟩:=rq H
  refine zB cr (jP rfl (apT (enc:=d4) (ys:=v39.cz) (zs:=[r45]) h)) cr ?_
  refine wA (spx 100168) ?_
  cases H
  refine uU ?_
  refine aK (wS 3 10) ?_
  refine aK (wS 4 11) ?_
  refine aK (wS 5 16) ?_
  refine aK (wS 6 13) ?_
  exact wo
 refine aR H λH=>?_
 cases H
 exact kn⟩
def py(a0:ah)(a1:am)(a2:aV):Option b8:=
 abd (vj a0) λr1=>cond r1 (abd (qH a0 a1) λr2=>ς r2) (abd (gZ a0) λr3=>cond (leB r3.ip.er r3.bV.dW) (abd (pu a1 r3.bV) λr7=>abd (cond (ltB 0 (r3.ax.aG.length:Int)) (abd (Cy 5 (WR (r3.d9+1))) λr9=>ς r9) (ς 0)) λ(v8:Int)=>cond (ltB 4 v8) (abd (vk {r3 with d9:=v8,bV:=r7.2} r7.1 a2) λr10=>ς r10) (abd (cond (ltB 0 (r3.ax.aG.length:Int)) (ς (ltB 0 r3.d6)) (ς η)) λ(v11:Bool)=>abd (cond v11 (ς (([]:List aD),WR (r3.d6-1))) (abd (cond (ltB 0 (r3.ax.aG.length:Int)) (abd (lI {r3 with d9:=v8,d6:=3,bV:=r7.2}) λr16=>ς (r16,3)) (ς (([]:List aD),r3.d6))) λ((v14,v15):List aD×Int)=>ς (v14,v15))) λ((v12,v13):List aD×Int)=>abd (ve {r3 with d9:=v8,d6:=v13,bV:=r7.2} r7.1) λr17=>cond (cW 64 (v12++r17.cz).length) (ς {r17 with cz:=(v12++r17.cz)}) ξ)) (abd (cond (ltB 0 (r3.ax.aG.length:Int)) (abd (Cy 5 (WR (r3.d9+1))) λr19=>ς r19) (ς 0)) λ(v18:Int)=>cond (ltB 4 v18) (abd (vk {r3 with d9:=v18} a1 a2) λr20=>ς r20) (abd (cond (ltB 0 (r3.ax.aG.length:Int)) (ς (ltB 0 r3.d6)) (ς η)) λ(v21:Bool)=>abd (cond v21 (ς (([]:List aD),WR (r3.d6-1))) (abd (cond (ltB 0 (r3.ax.aG.length:Int)) (abd (lI {r3 with d9:=v18,d6:=3}) λr26=>ς (r26,3)) (ς (([]:List aD),r3.d6))) λ((v24,v25):List aD×Int)=>ς (v24,v25))) λ((v22,v23):List aD×Int)=>abd (ve {r3 with d9:=v18,d6:=v23} a1) λr27=>cond (cW 64 (v22++r27.cz).length) (ς {r27 with cz:=(v22++r27.cz)}) ξ)))
instance SR{a0:ah}{a1:am}{a2:aV}{r:b8}:FC prog (py a0 a1 a2=ς r) 87 [.agg (cO a0),.agg (cS a1),.agg (js a2)] [.agg (qM [.o,.o,.o,.o,.o,.o] (dm r))]:=⟨λH=>by
 refine fI func87 ntmps87 ?_
 refine aa H λr1 q1 H=>nA (ca (hF:=CP.h q1)) ?_
 refine cC H ?_ ?_<;>intro H
 .refine aa H λr2 q2 H=>nA (ca (hF:=CQ.h q2)) ?_
  exact ao H
 refine aa H λr3 q3 H=>nA (ca (hF:=CO.h q3)) ?_
 refine cC H ?_ ?_<;>intro H
 .refine aa H λr7 q7 H=>nA (ca (hF:=CB.h q7)) ?_
  refine aa H λv8 Hj H=>jA ⟨[(3,tP 0),(4,tP 1),(5,tP 2),(6,tP 3),(9,tB (ltB 0 (r3.ax.aG.length:Int)))],(oM [.w 4,.w 5,.w 6] 0 87 (eC {r3 with d9:=v8,bV:=r7.2})++(oM [.w 7] 1 55 (eO r7.1)++[(2,.var 26 [.d η (.l (a2.bp.map fP))]),(3,.var 148 (kM [.z,.z,.z,.z,.z,.z] (dm dB)))])),10⟩ ?_ ?_
  .refine cC Hj ?_ ?_<;>intro H
   .refine aa H λr9 q9 H=>nA (ca (hF:=Ge.h q9)) ?_
    exact ai H
   exact ai H
  refine cC H ?_ ?_<;>intro H
  .refine aa H λr10 q10 H=>nA (ca (hF:=CR.h q10)) ?_
   exact ao H
  refine aa H λv11 Hj H=>jR ⟨[(3,tP 0),(4,tP 1),(6,tP 3),(9,tB (ltB 0 (r3.ax.aG.length:Int))),(10,.v (.c (.w 10 (([]:List aD).length)))),(61,tB v11)],(oM [.w 4,.w 5,.w 6] 0 87 (eC {r3 with d9:=v8,bV:=r7.2})++(oM [.w 7] 1 55 (eO r7.1)++[(3,.var 148 (kM [.z,.z,.z,.z,.z,.z] (dm dB))),(10,w69 ([]:List aD))])),11⟩ ?_ ?_
  .exact az Hj
  obtain⟨⟨v12,v13⟩,Hj,H⟩:=ob H
  refine jA ⟨[(3,tP 0),(4,tP 1),(6,tP 3),(10,.v (.c (.w 10 v12.length)))],(oM [.w 4,.w 5,.w 6] 0 87 (eC {r3 with d9:=v8,d6:=v13,bV:=r7.2})++(oM [.w 7] 1 55 (eO r7.1)++[(3,.var 148 (kM [.z,.z,.z,.z,.z,.z] (dm dB))),(10,w69 v12)])),11⟩ ?_ ?_
  .refine cC Hj ?_ ?_<;>intro H
   .exact ai H
   obtain⟨⟨v14,v15⟩,Hj,H⟩:=ob H
   refine jA ⟨[(3,tP 0),(4,tP 1),(6,tP 3),(10,.v (.c (.w 11 v14.length)))],(oM [.w 4,.w 5,.w 6] 0 87 (eC {r3 with d9:=v8,d6:=v15,bV:=r7.2})++(oM [.w 7] 1 55 (eO r7.1)++[(3,.var 148 (kM [.z,.z,.z,.z,.z,.z] (dm dB))),(11,w69 v14)])),12⟩ ?_ ?_
   .refine cC Hj ?_ ?_<;>intro H
    .refine aa H λr16 q16 H=>nA (ca (hF:=wP.h q16)) ?_
     exact ai H
    cases H
    refine aK (A6 (nx':=12) rfl) ?_
    refine aK (wS 11 10) ?_
    exact wo
   cases H
   refine aK (wS 10 11) ?_
   exact wo
  refine aa H λr17 q17 H=>nA (ca (hF:=CC.h q17)) ?_
  obtain⟨h,H⟩:=rq H
  refine sA (apT (enc:=d4) (ys:=v12) (zs:=r17.cz) h) ?_
  exact ao H
 refine aa H λv18 Hj H=>jA ⟨[(3,tP 0),(4,tP 1),(5,tP 2),(6,tP 3),(9,tB (ltB 0 (r3.ax.aG.length:Int)))],(oM [.w 4,.w 5,.w 6] 0 87 (eC {r3 with d9:=v18})++[(1,.var 55 (kM [.f] (eO a1))),(2,.var 26 [.d η (.l (a2.bp.map fP))]),(3,.var 148 (kM [.z,.z,.z,.z,.z,.z] (dm dB)))]),7⟩ ?_ ?_
 .refine cC Hj ?_ ?_<;>intro H
  .refine aa H λr19 q19 H=>nA (ca (hF:=Ge.h q19)) ?_
   exact ai H
  exact ai H
 refine cC H ?_ ?_<;>intro H
 .refine aa H λr20 q20 H=>nA (ca (hF:=CR.h q20)) ?_
  exact ao H
 refine aa H λv21 Hj H=>jR ⟨[(3,tP 0),(4,tP 1),(6,tP 3),(9,tB (ltB 0 (r3.ax.aG.length:Int))),(10,.v (.c (.w 7 (([]:List aD).length)))),(61,tB v21)],(oM [.w 4,.w 5,.w 6] 0 87 (eC {r3 with d9:=v18})++[(1,.var 55 (kM [.f] (eO a1))),(3,.var 148 (kM [.z,.z,.z,.z,.z,.z] (dm dB))),(7,w69 ([]:List aD))]),8⟩ ?_ ?_
 .exact az Hj
 obtain⟨⟨v22,v23⟩,Hj,H⟩:=ob H
 refine jA ⟨[(3,tP 0),(4,tP 1),(6,tP 3),(10,.v (.c (.w 7 v22.length)))],(oM [.w 4,.w 5,.w 6] 0 87 (eC {r3 with d9:=v18,d6:=v23})++[(1,.var 55 (kM [.f] (eO a1))),(3,.var 148 (kM [.z,.z,.z,.z,.z,.z] (dm dB))),(7,w69 v22)]),8⟩ ?_ ?_
 .refine cC Hj ?_ ?_<;>intro H
  .exact ai H
  obtain⟨⟨v24,v25⟩,Hj,H⟩:=ob H
  refine jA ⟨[(3,tP 0),(4,tP 1),(6,tP 3),(10,.v (.c (.w 8 v24.length)))],(oM [.w 4,.w 5,.w 6] 0 87 (eC {r3 with d9:=v18,d6:=v25})++[(1,.var 55 (kM [.f] (eO a1))),(3,.var 148 (kM [.z,.z,.z,.z,.z,.z] (dm dB))),(8,w69 v24)]),9⟩ ?_ ?_
  .refine cC Hj ?_ ?_<;>intro H
   .refine aa H λr26 q26 H=>nA (ca (hF:=wP.h q26)) ?_
    exact ai H
   cases H
   refine aK (A6 (nx':=9) rfl) ?_
   refine aK (wS 8 7) ?_
   exact wo
  cases H
  refine aK (wS 7 8) ?_
  exact wo
 refine aa H λr27 q27 H=>nA (ca (hF:=CC.h q27)) ?_
 obtain⟨h,H⟩:=rq H
 refine sA (apT (enc:=d4) (ys:=v22) (zs:=r27.cz) h) ?_
 cases H
 exact kn⟩
def rR:(Int×ab)->Option (ct (Int×ab) (ab))
 |(v1,v12)=>cond (ltB v1 (v12.aj.length:Int)) (abd (ix v12.aj v1) λx27=>abd (rD x27) λr28=>abd (ic v12 v1 r28) λr29=>ς (.next (WR (v1+1),r29))) (ς (.done v12))
def lJ(v30:Int)(r88:b8):(Int×ab)->Option (ct (Int×ab) (ab))
 |(v92,v103)=>cond (ltB v92 (r88.cz.length:Int)) (abd (ix r88.cz v92) λx117=>abd (gz v103 (⟨v30,η,ζ,r88.a8.bv,iJ,x117⟩:bT)) λr118=>ς (.next (WR (v92+1),r118))) (ς (.done v103))
def rS:(Int×ab)->Option (ct (Int×ab) (ab))
 |(v30,v41)=>cond (ltB v30 (v41.an.length:Int)) (abd (ix v41.an v30) λx86=>abd (ix v41.aU v30) λx87=>abd (py x86 x87 v41.dV) λr88=>abd (ix v41.an v30) λx89=>abd (ix v41.aU v30) λx90=>abd (jZ {v41 with an:=(v41.an.set (v30).toNat r88.a8),aU:=(v41.aU.set (v30).toNat r88.eo)} v30 η r88.lF) λr91=>abd (iter (lJ v30 r88) FU (0,r91)) λ(v116:ab)=>ς (.next (WR (v30+1),v116))) (ς (.done v41))
def y3(a0:ab):Option (Bool×ab):=
 cond (leB 100000 a0.oG) (ς (η,a0)) (abd (iter (rR) FU (0,{a0 with oG:=WR (a0.oG+1)})) λ(v26:ab)=>abd (iter (rS) FU (0,v26)) λ(v85:ab)=>ς (ζ,v85))
instance YS{a0:ab}{r:Bool×ab}:FCV prog (y3 a0=ς r) 53 (nS a0) [tP 200] (nS r.2) (.v (.c (.d η (.b r.1)))) []:=gV func53 ntmps53 (hL 0 (λ(v:Int×ab) sl ob nx=>⟨(3,tI v.1)::xS [193,192,191,190] sl,nS v.2++ob,nx⟩)) (hB 0 (λ(v:ab) sl ob nx=>⟨(3,.any)::xS [193,192,191,190] sl,nS v++ob,nx⟩)) (hL 2 (λ(v:Int×ab) sl ob nx=>⟨(4,tI v.1)::xS [193,192,191,190] sl,nS v.2++ob,nx⟩)) (hB 2 (λ(v:ab) sl ob nx=>⟨(4,.any)::xS [193,192,191,190] sl,nS v++ob,nx⟩)) (hL 4 (λ(v:Int×ab) sl ob nx=>⟨(6,tI v.1)::xS [193,192,191,190] sl,nS v.2++ob,nx⟩)) (hB 4 (λ(v:ab) sl ob nx=>⟨(6,.any)::xS [193,192,191,190] sl,nS v++ob,nx⟩)) (hz 18) (hz 13) (hz 12) (hz 11)
end Go.AM
