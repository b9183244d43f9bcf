/- A part. -/
import Derived.Test.YtfbpfflnhfcmaaaGreatS5
import Derived.Test.YtfbpfflnhfcmaaaGreatS8
import Derived.Test.YtfbpfflnhfcmaaaGreatS9
set_option linter.unusedVariables false
open Option renaming some->ς,none->ξ
open Bool renaming true->ζ,false->η
open True renaming intro->θ
open Option renaming bind->acE
namespace Go.AM
open Go.Proofs
open Tryz
attribute [local irreducible] AWN NS AWO AWR AWC DR DZ du gr iter
set_option maxRecDepth 100000
set_option maxHeartbeats 40000000
def ER(a0:av)(a1:aC):Option (aG×av):=
 acE (bC a0 8) λr1=>acE (cond (eqB (WR (1+r1.1)) 2) (acE (kf a1.dO.ID (WR (a1.dO.c8+1))) λr18=>acE (gY a1.dO.fA r18 (WR (a1.dO.c8+1))) λr19=>acE (gq r1.2 3) λr20=>acE (cond r20.1 (acE (Av r20.2) λr31=>ς (r31.2,(⟨WR (1+r1.1),a1.bh,WR (a1.dO.c8+1),a1.aY,0,r31.1,0⟩:aG))) (ς (r20.2,(⟨WR (1+r1.1),a1.bh,WR (a1.dO.c8+1),a1.aY,0,r19,0⟩:aG)))) λ((v29,v30):av×aG)=>ς (v29,v30)) (acE (cond (eqB (WR (1+r1.1)) 4) (acE (bC r1.2 5) λr37=>ς (r37.1,r37.2)) (ς (a1.aY,r1.2))) λ((v35,v36):Int×av)=>ς (v36,(⟨WR (1+r1.1),a1.bh,a1.ah,v35,0,cH,0⟩:aG)))) λ((v16,v17):av×aG)=>acE (js a1.bg v17) λr38=>acE (bC v16 8) λr39=>acE (cond (eqB r39.1 0) (acE (Au r39.2) λr56=>ς (r56.2,{r38 with i7:=r56.1})) (acE (cond (eqB r39.1 1) (acE (bC r39.2 7) λr64=>ς (r64.2,{r38 with bh:=WR (r64.1-1)})) (acE (cond (eqB r39.1 2) (ς (WR (r38.ah+1))) (ς r38.ah)) λ(v65:Int)=>ς (r39.2,{r38 with ah:=v65}))) λ((v62,v63):av×aG)=>ς (v62,v63))) λ((v54,v55):av×aG)=>ς (v55,v54)
instance Tn{a0:av}{a1:aC}{r:aG×av}:FCW prog (ER a0 a1=ς r) 241 (.var 124 (kM [.f] (be a0))) [tP 200,.v (.agg (kM [.f,.f] (eW a1)))] (.var 124 (kM [.f] (be r.2))) [.agg (qM [] (gL r.1))]:=gW func241 ntmps241 (hC 23 (λ(v:av×aG) sl ob nx=>⟨sl,[(200,.var 124 (kM [.f] (be v.1))),(212,.var 42 (kM [] (gL v.2)))]++ob,nx⟩)) (hC 39 (λ(v:av×aG) sl ob nx=>⟨sl,[(200,.var 124 (kM [.f] (be v.1))),(212,.var 42 (kM [] (gL v.2)))]++ob,nx⟩)) (hz 6) (hC 43 (λ(v:Int×av) sl ob nx=>⟨sl,[(200,.var 124 (kM [.f] (be v.2)))]++(uC 212 3 [.d η (.i .i64 v.1)] ob),nx⟩)) (hC 54 (λ(v:av×aG) sl ob nx=>⟨sl,[(200,.var 124 (kM [.f] (be v.1))),(212,.var 42 (kM [] (gL v.2)))]++fO [210] ob,nx⟩)) (hC 59 (λ(v:av×aG) sl ob nx=>⟨sl,[(200,.var 124 (kM [.f] (be v.1))),(212,.var 42 (kM [] (gL v.2)))]++fO [210] ob,nx⟩)) (hC 65 (λ(v:Int) sl ob nx=>⟨sl,uC 212 2 [.d η (.i .i64 v)] ob,nx⟩)) (hz 2)
def nN(a0:ag)(a1:aG):Option bN:=
 acE (wK a0 a1) λr1=>acE (cond (!r1) (ς ζ) (ς (ltB a0.aK.bB a1.bZ))) λ(v2:Bool)=>cond v2 (acE (pQ a0) λr3=>ς r3) (acE (ju a0) λr4=>acE (jn a0.aK a1.bZ) λr5=>acE (oC a0.aK.aF) λr6=>acE (oC r5.aF) λr7=>acE (qH a0.bX (WR (r6-r7))) λr8=>ς (⟨{r4 with dQ:=0,aK:=r5,bX:=r8.1},([]:List aG)⟩:bN))
instance QO{a0:ag}{a1:aG}{r:bN}:FC prog (nN a0 a1=ς r) 359 [.agg (cp a0),.agg (dM a1)] [.agg (qM [.o,.o,.o,.o] (eh r))]:=gG func359 ntmps359 (hb 12 19) (hz 5)
def qO(a0:ae)(r1:bE):(Int×List ag)->Option (ci (Int×List ag) (List ag))
 |(v5,v6)=>cond (ltB v5 (v6.length:Int)) (acE (nz a0.fP v5) λr14=>acE (nz r1 v5) λr15=>acE (cond (!eqB r14 r15) (acE (ix v6 v5) λx17=>acE (Aj x17) λr18=>acE (ix v6 v5) λx19=>ς (v6.set (v5).toNat r18)) (ς v6)) λ(v16:List ag)=>ς (.next (WR (v5+1),v16))) (ς (.done v6))
def xQ(a0:ae)(a1:Int)(a2:Bool):Option (Bool×ae):=
 acE (sW a0.fP a1 a2) λr1=>acE (dD a1 0 (WR (a0.fP.fy-1))) λr2=>acE (cond (!r2) (ς ζ) (acE (rh a0.fP a1) λr4=>cond (booB r4 a2) (ς ζ) (ς (eqB r1.fj 0)))) λ(v3:Bool)=>cond v3 (ς (η,a0)) (acE (iter (qO a0 r1) FU (0,a0.aJ)) λ(v13:List ag)=>ς (ζ,{a0 with aJ:=v13,fP:=r1}))
instance aar{a0:ae}{a1:Int}{a2:Bool}{r:Bool×ae}:FCV prog (xQ a0 a1 a2=ς r) 152 (nS a0) [tP 200,tI a1,tB a2] (nS r.2) (.v (.c (.d η (.b r.1)))) []:=gV func152 ntmps152 (hb 26 40) (hL 0 (λ(v:Int×List ag) sl ob nx=>⟨(9,tI v.1)::xS [191,190,192,193] sl,[(191,n93 v.2)]++(uC 200 2 [.wn 191 v.2.length] ob),nx⟩)) (hB 0 (λ(v:List ag) sl ob nx=>⟨(9,.any)::xS [191,190,192,193] sl,[(191,n93 v)]++(uC 200 2 [.wn 191 v.length] ob),nx⟩)) (hC 64 (λ(v:List ag) sl ob nx=>⟨xS [191,190,192,193] sl,[(191,n93 v)]++(uC 200 2 [.wn 191 v.length] ob),nx⟩)) (hz 10)
def u6:(Int×av×aV)->Option (ci (Int×av×aV) (av×aV))
 |(v2,v8,v9)=>cond (ltB 0 v2) (acE (gq v8 3) λr30=>acE (cond r30.1 (acE (bC r30.2 3) λr38=>acE (jn v9 (WR (v9.bB-r38.1))) λr39=>ς (r38.2,r39)) (acE (bC r30.2 3) λr40=>acE (tX r40.2 r40.1) λr41=>acE (jq v9 r41.1) λr42=>cond r42.2.2 (ς (r41.2,r42.1)) (ς (r41.2,r42.1)))) λ((v36,v37):av×aV)=>ς (.next (WR (v2-1),v36,v37))) (ς (.done (v8,v9)))
def pO(a0:av):Option (aV×av):=
 acE (bC a0 12) λr1=>acE (iter (u6) FU (r1.1,r1.2,(⟨1,([]:List ab)⟩:aV))) λ((v28,v29):av×aV)=>ς (v29,v28)
instance Tl{a0:av}{r:aV×av}:FCV prog (pO a0=ς r) 333 [(200,.var 124 (kM [.f] (be a0)))] [tP 200] [(200,.var 124 (kM [.f] (be r.2)))] (.v (.agg (kM [.n 210] (dw r.1)))) [(210,n100 r.1.aF)]:=⟨λH=>by
 refine fV func333 ntmps333 ?_
 refine aa H λr1 q1 H=>sA (cw (o:=200) (cr.h q1)) ?_
 obtain⟨⟨v28,v29⟩,Hj,H⟩:=ob H
 refine jB ⟨[(2,tP 210),(3,tP 211)],(oM [.n 212] 211 89 (dw v29)++[(200,.var 124 (kM [.f] (be v28))),(210,.var 89 (kM [.z] (dw kT)))]),213⟩ ?_ ?_
 .refine iT Hj (λq=>⟨[(0,tP 200),(2,tP 210),(3,tP 211),(4,tI q.1)],(oM [.n 212] 211 89 (dw q.2.2)++[(200,.var 124 (kM [.f] (be q.2.1))),(210,.var 89 (kM [.z] (dw kT)))]),213⟩) ?_ (by refine aP (eo (o:=211) (j:=1) 100 2 ζ) ?_;refine aP (wB 212 (([]:List ab).length)) ?_;exact wo)
  rintro⟨v2,v8,v9⟩ o H
  refine ad ?_
  refine cC H ?_ ?_<;>intro H
  .refine aa H λr30 q30 H=>sA (cw (o:=200) (ko.h q30)) ?_
   obtain⟨⟨v36,v37⟩,Hj,H⟩:=ob H
   refine jA ⟨[(0,tP 200),(2,tP 210),(3,tP 211),(4,tI v2)],(oM [.w 213] 211 89 (dw v37)++[(200,.var 124 (kM [.f] (be v36))),(210,.var 89 (kM [.z] (dw kT)))]),214⟩ ?_ ?_
   .refine cC Hj ?_ ?_<;>intro H
    .refine zI (List.range 8) ?_
     refine aa H λr38 q38 H=>wA (cwx (o:=200) (cr.h q38)) ?_
     refine aa H λr39 q39 H=>zA (ca (hF:=AI.h q39)) ?_
     refine wA (spx 100990) ?_
     exact ai H
    refine zI (List.range 11) ?_
    refine aa H λr40 q40 H=>wA (cwx (o:=200) (cr.h q40)) ?_
    refine aa H λr41 q41 H=>wA (cwx (o:=200) (BC.h q41)) ?_
    obtain⟨r42,q42,H⟩:=ob H
    rcases hb:r42.2.2 with _|_
    .have H:=bf hb H
     refine ij rfl (ca (hF:=zk q42 hb)) ?_
     simp only[hb]
     refine wI ?_
     refine wA (spx 100992) ?_
     cases H
     refine aP (wS 213 214) ?_
     exact wo
    have H:=bt hb H
    refine ij rfl (ca (hF:=zl q42 hb)) ?_
    simp only[hb]
    refine wI ?_
    refine wA (spx 100991) ?_
    cases H
    refine aP (wS 213 214) ?_
    exact wo
   cases H
   refine uj ?_
   refine aP (fZ 213) ?_
   refine aP (wS 212 213) ?_
   exact wo
  exact aE H
 cases H
 refine bM (wS 212 210) ?_
 exact dy⟩
def qK(a0:av):Option (aV×av):=
 acE (pO a0) λr1=>acE (bC r1.2 8) λr2=>acE (cond (eqB r2.1 0) (acE (g4 r2.2 [0,100000,100001,WR (r1.1.bB+1)]) λr10=>ς (r10.2,(⟨r10.1,r1.1.aF⟩:aV))) (acE (cond (eqB r2.1 1) (acE (bC r2.2 9) λr16=>cond (cW 32 (r1.1.aF++[(⟨r16.1,[]⟩:ab)]).length) (ς ((r1.1.aF++[(⟨r16.1,[]⟩:ab)]),r16.2)) ξ) (ς (r1.1.aF,r2.2))) λ((v14,v15):List ab×av)=>ς (v15,(⟨r1.1.bB,v14⟩:aV)))) λ((v8,v9):av×aV)=>ς (v9,v8)
instance T8{a0:av}{r:aV×av}:FCV prog (qK a0=ς r) 276 [(200,.var 124 (kM [.f] (be a0)))] [tP 200] [(200,.var 124 (kM [.f] (be r.2)))] (.v (.agg (kM [.n 210] (dw r.1)))) [(210,n100 r.1.aF)]:=gV func276 ntmps276 (hC 8 (λ(v:av×aV) sl ob nx=>⟨xS [211] sl,oM [.n 211] 212 89 (dw v.2)++[(200,.var 124 (kM [.f] (be v.1)))]++ob,nx⟩)) (hC 17 (λ(v:List ab×av) sl ob nx=>⟨xS [211] sl,[(200,.var 124 (kM [.f] (be v.2))),(211,n100 v.1)]++(uC 212 1 [.wn 211 v.1.length] ob),nx⟩)) (hz 6)
end Go.AM
