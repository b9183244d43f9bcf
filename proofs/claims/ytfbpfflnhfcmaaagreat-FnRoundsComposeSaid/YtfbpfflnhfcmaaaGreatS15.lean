/- A part. -/
import Derived.Test.YtfbpfflnhfcmaaaGreatS10
import Derived.Test.YtfbpfflnhfcmaaaGreatS11
set_option linter.unusedVariables false
open Option renaming some->ς,none->ξ
open Bool renaming true->ζ,false->η
open True renaming intro->θ
open Option renaming bind->acE
namespace Go.AM
open Go.Proofs
open Tryz
attribute [local irreducible] AWN NS AWO AWR AWC DR DZ du gr iter
set_option maxRecDepth 100000
set_option maxHeartbeats 40000000
def uU(a0:ag):(Int×bR)->Option (ci (Int×bR) (bR))
 |(v3,v39)=>acE (cond (ltB v3 2) (cond (leB v39.bb.aK.bB (a0.aS.length:Int)) (ς (ltB (v39.bb.aK.aF.length:Int) 8)) (ς η)) (ς η)) λ(v40:Bool)=>cond v40 (acE (ix a0.aS (WR (v39.bb.aK.bB-1))) λx41=>acE (sR v39.bb v39.eN (x41.bk.length:Int)) λr42=>acE (pG r42.1 (x41.bk.length:Int)) λr43=>cond (ltB 0 r43) (dn (ς {v39 with bb:=r42.1,eN:=r42.2})) (acE (jq r42.1.aK x41.bk) λr44=>cond r44.2.2 (acE (zG a0 r44.2.1) λr45=>cond (cW 64 (v39.ct++[r45]).length) (ς (.next (WR (v3+1),(⟨{r42.1 with aK:=r44.1},r42.2,v39.lW,(v39.ct++[r45])⟩:bR)))) ξ) (dn (ς {v39 with bb:=r42.1,eN:=r42.2})))) (dn (ς v39))
def zj(a0:ag)(a1:aj):Option bR:=
 acE (t6 a0 a1) λr1=>acE (zE a0) λr2=>cond r2 (ς r1) (iter (uU a0) FU (0,r1))
instance GQ{a0:ag}{a1:aj}{r:bR}:FC prog (zj a0 a1=ς r) 317 [.agg (cp a0),.agg (dh a1)] [.agg (qM [.o,.o,.o,.o,.o,.o] (b9 r))]:=⟨λH=>by
 refine fI func317 ntmps317 ?_
 refine aa H λr1 q1 H=>nA (ca (hF:=G6.h q1)) ?_
 refine aa H λr2 q2 H=>nA (ca (hF:=G5.h q2)) ?_
 refine cC H ?_ ?_<;>intro H
 .exact ao H
 refine iT H (λq=>⟨[(2,tP 0),(4,tP 2),(5,tP 9),(6,tI q.1)],(oM [.w 3,.w 4,.w 5,.w 6,.w 7,.w 8] 9 173 (b9 q.2)++[(0,.var 93 (kM [.f,.f,.f] (cU a0))),(2,.var 173 (kM [.z,.z,.z,.z,.z,.z] (b9 cB)))]),10⟩) ?_
 rintro⟨v3,v39⟩ o H
 refine ad ?_
 refine aa H λv40 Hj H=>jR ⟨[(2,tP 0),(4,tP 2),(5,tP 9),(6,tI v3),(38,tB v40)],(oM [.w 3,.w 4,.w 5,.w 6,.w 7,.w 8] 9 173 (b9 v39)++[(0,.var 93 (kM [.f,.f,.f] (cU a0))),(2,.var 173 (kM [.z,.z,.z,.z,.z,.z] (b9 cB)))]),10⟩ ?_ ?_
 .exact az Hj
 refine cC H ?_ ?_<;>intro H
 .refine aa H λx41 hx41 H=>nA (xdT (enc:=d8) hx41) ?_
  refine aa H λr42 q42 H=>nA (ca (hF:=GJ.h q42)) ?_
  refine aa H λr43 q43 H=>nA (ca (hF:=GO.h q43)) ?_
  refine cC H ?_ ?_<;>intro H
  .exact aQ H
  obtain⟨r44,q44,H⟩:=ob H
  rcases hb:r44.2.2 with _|_
  .have H:=bf hb H
   refine oi rfl (ca (hF:=zk q44 hb)) ?_
   simp only[hb]
   refine wI ?_
   exact aQ H
  have H:=bt hb H
  refine oi rfl (ca (hF:=zl q44 hb)) ?_
  simp only[hb]
  refine wI ?_
  refine zI (List.range 9) ?_
  refine aa H λr45 q45 H=>zA (ca (hF:=(OJ.h q45).frzs (by repeat (first|exact θ|refine⟨?_,?_⟩|exact lm _|rfl)))) ?_
  obtain⟨h,H⟩:=rq H
  refine zB cA (kz rfl (apT (enc:=dr) (ys:=v39.ct) (zs:=[r45]) h)) cA ?_
  refine wA (spx 100398) ?_
  cases H
  refine uj ?_
  refine aP (wS 3 10) ?_
  refine aP (wS 4 11) ?_
  refine aP (wS 5 16) ?_
  refine aP (wS 6 13) ?_
  exact wo
 refine aR H λH=>?_
 cases H
 exact jJ⟩
def sX(a0:ag)(a1:aj)(a2:aZ):Option bR:=
 acE (zE a0) λr1=>cond r1 (acE (t6 a0 a1) λr2=>ς r2) (acE (ju a0) λr3=>cond (leB r3.gB.eB r3.bX.eH) (acE (sT a1 r3.bX) λr7=>acE (cond (ltB 0 (r3.aK.aF.length:Int)) (acE (GM 5 (WR (r3.dQ+1))) λr9=>ς r9) (ς 0)) λ(v8:Int)=>cond (ltB 4 v8) (acE (zF {r3 with dQ:=v8,bX:=r7.2} r7.1 a2) λr10=>ς r10) (acE (cond (ltB 0 (r3.aK.aF.length:Int)) (ς (ltB 0 r3.dL)) (ς η)) λ(v11:Bool)=>acE (cond v11 (ς (([]:List aD),WR (r3.dL-1))) (acE (cond (ltB 0 (r3.aK.aF.length:Int)) (acE (oA {r3 with dQ:=v8,dL:=3,bX:=r7.2}) λr16=>ς (r16,3)) (ς (([]:List aD),r3.dL))) λ((v14,v15):List aD×Int)=>ς (v14,v15))) λ((v12,v13):List aD×Int)=>acE (zj {r3 with dQ:=v8,dL:=v13,bX:=r7.2} r7.1) λr17=>cond (cW 64 (v12++r17.ct).length) (ς {r17 with ct:=(v12++r17.ct)}) ξ)) (acE (cond (ltB 0 (r3.aK.aF.length:Int)) (acE (GM 5 (WR (r3.dQ+1))) λr19=>ς r19) (ς 0)) λ(v18:Int)=>cond (ltB 4 v18) (acE (zF {r3 with dQ:=v18} a1 a2) λr20=>ς r20) (acE (cond (ltB 0 (r3.aK.aF.length:Int)) (ς (ltB 0 r3.dL)) (ς η)) λ(v21:Bool)=>acE (cond v21 (ς (([]:List aD),WR (r3.dL-1))) (acE (cond (ltB 0 (r3.aK.aF.length:Int)) (acE (oA {r3 with dQ:=v18,dL:=3}) λr26=>ς (r26,3)) (ς (([]:List aD),r3.dL))) λ((v24,v25):List aD×Int)=>ς (v24,v25))) λ((v22,v23):List aD×Int)=>acE (zj {r3 with dQ:=v18,dL:=v23} a1) λr27=>cond (cW 64 (v22++r27.ct).length) (ς {r27 with ct:=(v22++r27.ct)}) ξ)))
instance Xm{a0:ag}{a1:aj}{a2:aZ}{r:bR}:FC prog (sX a0 a1 a2=ς r) 245 [.agg (cp a0),.agg (dh a1),.agg (fT a2)] [.agg (qM [.o,.o,.o,.o,.o,.o] (b9 r))]:=⟨λH=>by
 refine fI func245 ntmps245 ?_
 refine aa H λr1 q1 H=>nA (ca (hF:=G5.h q1)) ?_
 refine cC H ?_ ?_<;>intro H
 .refine aa H λr2 q2 H=>nA (ca (hF:=G6.h q2)) ?_
  exact ao H
 refine aa H λr3 q3 H=>nA (ca (hF:=OI.h q3)) ?_
 refine cC H ?_ ?_<;>intro H
 .refine aa H λr7 q7 H=>nA (ca (hF:=GP.h q7)) ?_
  refine aa H λv8 Hj H=>jA ⟨[(3,tP 0),(4,tP 1),(5,tP 2),(6,tP 3),(9,tB (ltB 0 (r3.aK.aF.length:Int)))],(oM [.w 4,.w 5,.w 6] 0 93 (cU {r3 with dQ:=v8,bX:=r7.2})++(oM [.w 7] 1 107 (cO r7.1)++[(2,.var 26 [.d η (.l (a2.bp.map eL))]),(3,.var 173 (kM [.z,.z,.z,.z,.z,.z] (b9 cB)))])),10⟩ ?_ ?_
  .refine cC Hj ?_ ?_<;>intro H
   .refine aa H λr9 q9 H=>nA (ca (hF:=KC.h q9)) ?_
    exact ai H
   exact ai H
  refine cC H ?_ ?_<;>intro H
  .refine aa H λr10 q10 H=>nA (ca (hF:=G7.h q10)) ?_
   exact ao H
  refine aa H λv11 Hj H=>jR ⟨[(3,tP 0),(4,tP 1),(6,tP 3),(9,tB (ltB 0 (r3.aK.aF.length:Int))),(10,.v (.c (.w 10 (([]:List aD).length)))),(61,tB v11)],(oM [.w 4,.w 5,.w 6] 0 93 (cU {r3 with dQ:=v8,bX:=r7.2})++(oM [.w 7] 1 107 (cO r7.1)++[(3,.var 173 (kM [.z,.z,.z,.z,.z,.z] (b9 cB))),(10,w46 ([]:List aD))])),11⟩ ?_ ?_
  .exact az Hj
  obtain⟨⟨v12,v13⟩,Hj,H⟩:=ob H
  refine jA ⟨[(3,tP 0),(4,tP 1),(6,tP 3),(10,.v (.c (.w 10 v12.length)))],(oM [.w 4,.w 5,.w 6] 0 93 (cU {r3 with dQ:=v8,dL:=v13,bX:=r7.2})++(oM [.w 7] 1 107 (cO r7.1)++[(3,.var 173 (kM [.z,.z,.z,.z,.z,.z] (b9 cB))),(10,w46 v12)])),11⟩ ?_ ?_
  .refine cC Hj ?_ ?_<;>intro H
   .exact ai H
   obtain⟨⟨v14,v15⟩,Hj,H⟩:=ob H
   refine jA ⟨[(3,tP 0),(4,tP 1),(6,tP 3),(10,.v (.c (.w 11 v14.length)))],(oM [.w 4,.w 5,.w 6] 0 93 (cU {r3 with dQ:=v8,dL:=v15,bX:=r7.2})++(oM [.w 7] 1 107 (cO r7.1)++[(3,.var 173 (kM [.z,.z,.z,.z,.z,.z] (b9 cB))),(11,w46 v14)])),12⟩ ?_ ?_
   .refine cC Hj ?_ ?_<;>intro H
    .refine aa H λr16 q16 H=>nA (ca (hF:=A0.h q16)) ?_
     exact ai H
    cases H
    refine aP (vl (nx':=12) rfl) ?_
    refine aP (wS 11 10) ?_
    exact wo
   cases H
   refine aP (wS 10 11) ?_
   exact wo
  refine aa H λr17 q17 H=>nA (ca (hF:=GQ.h q17)) ?_
  obtain⟨h,H⟩:=rq H
  refine sA (apT (enc:=dr) (ys:=v12) (zs:=r17.ct) h) ?_
  exact ao H
 refine aa H λv18 Hj H=>jA ⟨[(3,tP 0),(4,tP 1),(5,tP 2),(6,tP 3),(9,tB (ltB 0 (r3.aK.aF.length:Int)))],(oM [.w 4,.w 5,.w 6] 0 93 (cU {r3 with dQ:=v18})++[(1,.var 107 (kM [.f] (cO a1))),(2,.var 26 [.d η (.l (a2.bp.map eL))]),(3,.var 173 (kM [.z,.z,.z,.z,.z,.z] (b9 cB)))]),7⟩ ?_ ?_
 .refine cC Hj ?_ ?_<;>intro H
  .refine aa H λr19 q19 H=>nA (ca (hF:=KC.h q19)) ?_
   exact ai H
  exact ai H
 refine cC H ?_ ?_<;>intro H
 .refine aa H λr20 q20 H=>nA (ca (hF:=G7.h q20)) ?_
  exact ao H
 refine aa H λv21 Hj H=>jR ⟨[(3,tP 0),(4,tP 1),(6,tP 3),(9,tB (ltB 0 (r3.aK.aF.length:Int))),(10,.v (.c (.w 7 (([]:List aD).length)))),(61,tB v21)],(oM [.w 4,.w 5,.w 6] 0 93 (cU {r3 with dQ:=v18})++[(1,.var 107 (kM [.f] (cO a1))),(3,.var 173 (kM [.z,.z,.z,.z,.z,.z] (b9 cB))),(7,w46 ([]:List aD))]),8⟩ ?_ ?_
 .exact az Hj
 obtain⟨⟨v22,v23⟩,Hj,H⟩:=ob H
 refine jA ⟨[(3,tP 0),(4,tP 1),(6,tP 3),(10,.v (.c (.w 7 v22.length)))],(oM [.w 4,.w 5,.w 6] 0 93 (cU {r3 with dQ:=v18,dL:=v23})++[(1,.var 107 (kM [.f] (cO a1))),(3,.var 173 (kM [.z,.z,.z,.z,.z,.z] (b9 cB))),(7,w46 v22)]),8⟩ ?_ ?_
 .refine cC Hj ?_ ?_<;>intro H
  .exact ai H
  obtain⟨⟨v24,v25⟩,Hj,H⟩:=ob H
  refine jA ⟨[(3,tP 0),(4,tP 1),(6,tP 3),(10,.v (.c (.w 8 v24.length)))],(oM [.w 4,.w 5,.w 6] 0 93 (cU {r3 with dQ:=v18,dL:=v25})++[(1,.var 107 (kM [.f] (cO a1))),(3,.var 173 (kM [.z,.z,.z,.z,.z,.z] (b9 cB))),(8,w46 v24)]),9⟩ ?_ ?_
  .refine cC Hj ?_ ?_<;>intro H
   .refine aa H λr26 q26 H=>nA (ca (hF:=A0.h q26)) ?_
    exact ai H
   cases H
   refine aP (vl (nx':=9) rfl) ?_
   refine aP (wS 8 7) ?_
   exact wo
  cases H
  refine aP (wS 7 8) ?_
  exact wo
 refine aa H λr27 q27 H=>nA (ca (hF:=GQ.h q27)) ?_
 obtain⟨h,H⟩:=rq H
 refine sA (apT (enc:=dr) (ys:=v22) (zs:=r27.ct) h) ?_
 cases H
 exact jJ⟩
def vg:(Int×ae)->Option (ci (Int×ae) (ae))
 |(v1,v12)=>cond (ltB v1 (v12.ax.length:Int)) (acE (ix v12.ax v1) λx27=>acE (rv x27) λr28=>acE (jF v12 v1 r28) λr29=>ς (.next (WR (v1+1),r29))) (ς (.done v12))
def oD(v30:Int)(r88:bR):(Int×ae)->Option (ci (Int×ae) (ae))
 |(v92,v103)=>cond (ltB v92 (r88.ct.length:Int)) (acE (ix r88.ct v92) λx117=>acE (iU v103 (⟨v30,η,ζ,r88.bb.bh,fc,x117⟩:bA)) λr118=>ς (.next (WR (v92+1),r118))) (ς (.done v103))
def vh:(Int×ae)->Option (ci (Int×ae) (ae))
 |(v30,v41)=>cond (ltB v30 (v41.aJ.length:Int)) (acE (ix v41.aJ v30) λx86=>acE (ix v41.bD v30) λx87=>acE (sX x86 x87 v41.d7) λr88=>acE (ix v41.aJ v30) λx89=>acE (ix v41.bD v30) λx90=>acE (mz {v41 with aJ:=(v41.aJ.set (v30).toNat r88.bb),bD:=(v41.bD.set (v30).toNat r88.eN)} v30 η r88.lW) λr91=>acE (iter (oD v30 r88) FU (0,r91)) λ(v116:ae)=>ς (.next (WR (v30+1),v116))) (ς (.done v41))
def CS(a0:ae):Option (Bool×ae):=
 cond (leB 100000 a0.lV) (ς (η,a0)) (acE (iter (vg) FU (0,{a0 with lV:=WR (a0.lV+1)})) λ(v26:ae)=>acE (iter (vh) FU (0,v26)) λ(v85:ae)=>ς (ζ,v85))
instance sl33Tick_c{a0:ae}{r:Bool×ae}:FCV prog (CS a0=ς r) 148 (nS a0) [tP 200] (nS r.2) (.v (.c (.d η (.b r.1)))) []:=gV func148 ntmps148 (hL 0 (λ(v:Int×ae) sl ob nx=>⟨(3,tI v.1)::xS [193,192,191,190] sl,nS v.2++ob,nx⟩)) (hB 0 (λ(v:ae) sl ob nx=>⟨(3,.any)::xS [193,192,191,190] sl,nS v++ob,nx⟩)) (hL 2 (λ(v:Int×ae) sl ob nx=>⟨(4,tI v.1)::xS [193,192,191,190] sl,nS v.2++ob,nx⟩)) (hB 2 (λ(v:ae) sl ob nx=>⟨(4,.any)::xS [193,192,191,190] sl,nS v++ob,nx⟩)) (hL 4 (λ(v:Int×ae) sl ob nx=>⟨(6,tI v.1)::xS [193,192,191,190] sl,nS v.2++ob,nx⟩)) (hB 4 (λ(v:ae) sl ob nx=>⟨(6,.any)::xS [193,192,191,190] sl,nS v++ob,nx⟩)) (hz 18) (hz 13) (hz 12) (hz 11)
end Go.AM
