/- A part. -/
import Derived.Test.YtfbpfflnhfcmaaaGreatS11
import Derived.Test.YtfbpfflnhfcmaaaGreatS12
import Derived.Test.YtfbpfflnhfcmaaaGreatS13
set_option linter.unusedVariables false
open Option renaming some->ς,none->ξ
open Bool renaming true->ζ,false->η
open True renaming intro->θ
open Option renaming bind->acE
open List renaming range->v0
namespace Go.AM
open Go.Proofs
open Tryz
attribute [local irreducible] AWN NS AWO AWR AWC DR DZ du gr iter
set_option maxRecDepth 100000
set_option maxHeartbeats 40000000
def A6:(Int×av×ag)->Option (ci (Int×av×ag) (av×ag))
 |(v6,v40,v41)=>cond (ltB 0 v6) (acE (bC v40 4) λr80=>acE (tX r80.2 r80.1) λr81=>acE (lE v41 r81.1) λr82=>ς (.next (WR (v6-1),r81.2,r82.1))) (ς (.done (v40,v41)))
def zz1:(Int×ag)->Option (ci (Int×ag) (ag))
 |(v91,v122)=>acE (cond (ltB 0 v91) (ς (leB v122.aK.bB (v122.aS.length:Int))) (ς η)) λ(v162:Bool)=>cond v162 (acE (ix v122.aS (WR (v122.aK.bB-1))) λx163=>acE (jq v122.aK x163.bk) λr164=>cond r164.2.2 (acE (oC r164.1.aF) λr165=>acE (je v122.bX) λr166=>acE (cond (leB r165 r166) (ς {v122 with aK:=r164.1}) (ς v122)) λ(v169:ag)=>ς (.next (WR (v91-1),v169))) (ς (.next (WR (v91-1),v122)))) (ς (.done v122))
def zz456(a0:av):Option (ag×av):=
 acE (EW a0) λr1=>acE (zx r1.2.2) λr2=>acE (bC r2.2 4) λr3=>acE (rr {r1.2.1 with cX:=r1.1.c8} r2.1 r3.1) λr4=>acE (bC r3.2 6) λr5=>acE (iter (A6) FU (r5.1,r5.2,{r4 with aS:=([]:List bI),aK:=(⟨r4.aK.bB,([]:List ab)⟩:aV)})) λ((v78,v79):av×ag)=>acE (gq v78 6) λr83=>cond r83.1 (ς (v79,r83.2)) (acE (bC r83.2 4) λr84=>acE (mu v79 {fc with bu:=1,bh:=r84.1}) λr85=>acE (gq r84.2 6) λr86=>cond r86.1 (ς (r85.bb,r86.2)) (acE (bC r86.2 4) λr87=>acE (kh r85.bb (⟨3,r87.1,r85.bb.bG,0,r85.bb.aA.vP,cH,0⟩:aG)) λr88=>acE (bC r87.2 20) λr89=>acE (bC r89.2 4) λr90=>acE (iter (zz1) FU (r90.1,{r88.bb with bX:={r88.bb.bX with cP:=WR (10+r89.1)}})) λ(v161:ag)=>ς (v161,r90.2)))
instance zz332{a0:av}{r:ag×av}:FCW prog (zz456 a0=ς r) 275 (.var 124 (kM [.f] (be a0))) [tP 200] (.var 124 (kM [.f] (be r.2))) [.agg (qM [.d,.d,.d] (cU r.1))]:=⟨λH=>by
 refine fW func275 ntmps275 ?_
 refine aa H λr1 q1 H=>sA (cw (o:=200) (sl6Pair_c.h q1)) ?_
 refine zI (v0 8) ?_
 refine aa H λr2 q2 H=>wA (cwx (o:=200) (FnV.frzW (OH.h q2) rfl rfl ⟨by first|rfl|simp,θ⟩ rfl)) ?_
 refine aa H λr3 q3 H=>wA (cwx (o:=200) (cr.h q3)) ?_
 refine aa H λr4 q4 H=>zA (ca (hF:=YF.h q4)) ?_
 refine wA (spx 100902) ?_
 refine aa H λr5 q5 H=>sA (cw (o:=200) (cr.h q5)) ?_
 obtain⟨⟨v78,v79⟩,Hj,H⟩:=ob H
 refine jB ⟨[(0,tP 200),(2,tP 210),(5,tP 214)],(oM [.w 213,.n 215,.n 216] 214 93 (cU v79)++[(200,.var 124 (kM [.f] (be v78))),(210,.var 93 (kM [.z,.z,.z] (cU AB)))]),217⟩ ?_ ?_
 .refine iT Hj (λq=>⟨[(0,tP 200),(2,tP 210),(5,tP 214),(6,tI q.1)],(oM [.w 213,.n 215,.n 216] 214 93 (cU q.2.2)++[(200,.var 124 (kM [.f] (be q.2.1))),(210,.var 93 (kM [.z,.z,.z] (cU AB)))]),217⟩) ?_ (by refine aP (eo (o:=214) (j:=23) 151 1 ζ) ?_;refine aP (eo (o:=214) (j:=25) 100 2 ζ) ?_;refine aP (wB 215 (([]:List bI).length)) ?_;refine aP (wB 216 (([]:List ab).length)) ?_;exact wo)
  rintro⟨v6,v40,v41⟩ o H
  refine ad ?_
  refine cC H ?_ ?_<;>intro H
  .refine zI (v0 10) ?_
   refine aa H λr80 q80 H=>wA (cwx (o:=200) (cr.h q80)) ?_
   refine aa H λr81 q81 H=>wA (cwx (o:=200) (BC.h q81)) ?_
   refine aa H λr82 q82 H=>zA (ca (hF:=Ei.h q82)) ?_
   refine wA (spx 100883) ?_
   cases H
   refine uj ?_
   refine aP (fZ 219) ?_
   refine aP (fZ 220) ?_
   refine aP (wS 213 218) ?_
   refine aP (wS 215 219) ?_
   refine aP (wS 216 220) ?_
   exact wo
  exact aE H
 refine aa H λr83 q83 H=>sA (cw (o:=200) (ko.h q83)) ?_
 refine cC H ?_ ?_<;>intro H
 .cases H
  refine w6 (ia 216) ?_
  refine w6 (ia 215) ?_
  refine w6 (dK (o:=213)) ?_
  refine w6 (dE (o:=210)) ?_
  exact tw
 refine zI (v0 7) ?_
 refine aa H λr84 q84 H=>wA (cwx (o:=200) (cr.h q84)) ?_
 refine aa H λr85 q85 H=>zA (ca (hF:=SY.h q85)) ?_
 refine wA (spx 100901) ?_
 refine aa H λr86 q86 H=>sA (cw (o:=200) (ko.h q86)) ?_
 refine cC H ?_ ?_<;>intro H
 .cases H
  refine w6 (dK (o:=217)) ?_
  refine w6 (dK (o:=218)) ?_
  refine w6 (dK (o:=219)) ?_
  refine w6 (dE (o:=210)) ?_
  exact tw
 refine zI (v0 12) ?_
 refine aa H λr87 q87 H=>wA (cwx (o:=200) (cr.h q87)) ?_
 refine aa H λr88 q88 H=>zA (ca (hF:=Oy.h q88)) ?_
 refine wA (spx 100900) ?_
 refine aa H λr89 q89 H=>sA (cw (o:=200) (cr.h q89)) ?_
 refine aa H λr90 q90 H=>sA (cw (o:=200) (cr.h q90)) ?_
 refine aa H λv161 Hj H=>jB ⟨[(2,tP 210),(5,tP 214)],[(200,.var 124 (kM [.f] (be r90.2))),(210,.var 93 (kM [.z,.z,.z] (cU AB))),(214,.var 93 (kM [.t,.t,.t] (cU v161)))],222⟩ ?_ ?_
 .refine iT Hj (λq=>⟨[(2,tP 210),(5,tP 214),(7,tI q.1)],[(200,.var 124 (kM [.f] (be r90.2))),(210,.var 93 (kM [.z,.z,.z] (cU AB))),(214,.var 93 (kM [.t,.t,.t] (cU q.2)))],222⟩) ?_
  rintro⟨v91,v122⟩ o H
  refine ad ?_
  refine aa H λv162 Hj H=>jR ⟨[(2,tP 210),(5,tP 214),(7,tI v91),(80,tB v162)],[(200,.var 124 (kM [.f] (be r90.2))),(210,.var 93 (kM [.z,.z,.z] (cU AB))),(214,.var 93 (kM [.t,.t,.t] (cU v122)))],222⟩ ?_ ?_
  .exact az Hj
  refine cC H ?_ ?_<;>intro H
  .refine zI (v0 21) ?_
   refine aa H λx163 hx163 H=>zA (xdT (enc:=d8) hx163) ?_
   obtain⟨r164,q164,H⟩:=ob H
   rcases hb:r164.2.2 with _|_
   .have H:=bf hb H
    refine ij rfl (ca (hF:=zk q164 hb)) ?_
    simp only[hb]
    refine wI ?_
    refine wA (spx 100899) ?_
    refine wA (spx 100898) ?_
    refine dI ?_
    refine wI ?_
    exact aN H
   have H:=bt hb H
   refine ij rfl (ca (hF:=zl q164 hb)) ?_
   simp only[hb]
   refine wI ?_
   refine wA (spx 100897) ?_
   refine wA (spx 100896) ?_
   refine dI ?_
   refine aa H λr165 q165 H=>dG (ca (hF:=abr.h q165)) ?_
   refine aa H λr166 q166 H=>dG (ca (hF:=QP.h q166)) ?_
   refine wI ?_
   refine aa H λv169 Hj H=>jA ⟨[(2,tP 210),(5,tP 214),(7,tI v91),(103,tI r165),(104,.v (.c (.p 214 27))),(105,.v (.agg (kM [] (z2 v122.bX)))),(106,tI r166),(107,tB (leB r165 r166))],[(200,.var 124 (kM [.f] (be r90.2))),(210,.var 93 (kM [.z,.z,.z] (cU AB))),(214,.var 93 (kM [.t,.t,.t] (cU v169)))],226⟩ ?_ ?_
   .refine cC Hj ?_ ?_<;>intro H
    .cases H
     refine aP (dK (o:=222)) ?_
     refine aP (di (k:=96)) ?_
     refine aP (di (k:=102)) ?_
     refine aP (di (k:=109)) ?_
     refine aP (dE (o:=214)) ?_
     refine aP (dE (o:=224)) ?_
     exact wo
    exact ai H
   exact aN H
  exact aE H
 cases H
 exact tw⟩
def EV(a0:av):Option (ag×av):=
 acE (zz456 a0) λr1=>acE (bC r1.2 14) λr2=>acE (cond (eqB r2.1 0) (acE (bC r2.2 4) λr38=>ς (r38.2,{r1.1 with bz:=WR (r38.1-1)})) (acE (cond (eqB r2.1 1) (acE (g4 r2.2 [0,-1,2147483647]) λr74=>ς (r74.2,{r1.1 with bg:=r74.1})) (acE (cond (eqB r2.1 2) (acE (g4 r2.2 [-1,999999,1000000]) λr110=>ς (r110.2,{r1.1 with bG:=r110.1})) (acE (cond (eqB r2.1 3) (acE (g4 r2.2 [-1,999999,1000000]) λr146=>ς (r146.2,{r1.1 with aY:=r146.1})) (acE (cond (eqB r2.1 4) (acE (g4 r2.2 [-1,5,6]) λr182=>ς (r182.2,{r1.1 with dQ:=r182.1})) (acE (cond (eqB r2.1 5) (acE (qK r2.2) λr218=>ς (r218.2,{r1.1 with aK:=r218.1})) (acE (cond (eqB r2.1 6) (acE (bC r2.2 4) λr226=>ς (r226.2,{r1.1 with bX:={r1.1.bX with cP:=r226.1}})) (acE (cond (eqB r2.1 7) (acE (g4 r2.2 [-1,5,6]) λr232=>ς (r232.1,r232.2)) (ς (r1.1.bh,r2.2))) λ((v230,v231):Int×av)=>ς (v231,{r1.1 with bh:=v230}))) λ((v224,v225):av×ag)=>ς (v224,v225))) λ((v216,v217):av×ag)=>ς (v216,v217))) λ((v180,v181):av×ag)=>ς (v180,v181))) λ((v144,v145):av×ag)=>ς (v144,v145))) λ((v108,v109):av×ag)=>ς (v108,v109))) λ((v72,v73):av×ag)=>ς (v72,v73))) λ((v36,v37):av×ag)=>ς (v37,v36)
instance zz252{a0:av}{r:ag×av}:FCW prog (EV a0=ς r) 189 (.var 124 (kM [.f] (be a0))) [tP 200] (.var 124 (kM [.f] (be r.2))) [.agg (qM [.d,.d,.d] (cU r.1))]:=gW func189 ntmps189 (hC 8 (λ(v:av×ag) sl ob nx=>⟨sl,[(200,.var 124 (kM [.f] (be v.1))),(211,.var 93 (kM [.t,.t,.t] (cU v.2)))]++ob,nx⟩)) (hC 14 (λ(v:av×ag) sl ob nx=>⟨sl,[(200,.var 124 (kM [.f] (be v.1))),(211,.var 93 (kM [.t,.t,.t] (cU v.2)))]++ob,nx⟩)) (hC 20 (λ(v:av×ag) sl ob nx=>⟨sl,[(200,.var 124 (kM [.f] (be v.1))),(211,.var 93 (kM [.t,.t,.t] (cU v.2)))]++ob,nx⟩)) (hC 26 (λ(v:av×ag) sl ob nx=>⟨sl,[(200,.var 124 (kM [.f] (be v.1))),(211,.var 93 (kM [.t,.t,.t] (cU v.2)))]++ob,nx⟩)) (hC 32 (λ(v:av×ag) sl ob nx=>⟨sl,[(200,.var 124 (kM [.f] (be v.1))),(211,.var 93 (kM [.t,.t,.t] (cU v.2)))]++ob,nx⟩)) (hC 38 (λ(v:av×ag) sl ob nx=>⟨sl,[(200,.var 124 (kM [.f] (be v.1))),(211,.var 93 (kM [.t,.t,.t] (cU v.2)))]++ob,nx⟩)) (hC 43 (λ(v:av×ag) sl ob nx=>⟨sl,[(200,.var 124 (kM [.f] (be v.1))),(211,.var 93 (kM [.t,.t,.t] (cU v.2)))]++ob,nx⟩)) (hC 49 (λ(v:Int×av) sl ob nx=>⟨sl,[(200,.var 124 (kM [.f] (be v.2)))]++(uC 211 18 [.d η (.i .i64 v.1)] ob),nx⟩))
end Go.AM
