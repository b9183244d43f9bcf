/- A part. -/
import Derived.Test.YtigcecmbknoijaaGreatDoorS14
import Derived.Test.YtigcecmbknoijaaGreatDoorS18
set_option linter.unusedVariables false
open Option renaming some->ς,none->ξ
open Bool renaming true->ζ,false->η
open True renaming intro->θ
open Option renaming bind->ZU
open List renaming range->v0
namespace Go.AM
open Go.Proofs
open Tryz
attribute [local irreducible] AWN NS AWO AWR AWC DR DZ cM eN iter
set_option maxRecDepth 100000
set_option maxHeartbeats 40000000
def xo:(Int×aj×ah)->Option (cH (Int×aj×ah) (aj×ah))
 |(v6,v40,v41)=>cond (ltB 0 v6) (ZU (a9 v40 4) λr80=>ZU (nj r80.2 r80.1) λr81=>ZU (jP v41 r81.1) λr82=>ς (.next (WR (v6-1),r81.2,r82.1))) (ς (.done (v40,v41)))
def zy37:(Int×ah)->Option (cH (Int×ah) (ah))
 |(v91,v122)=>ZU (cond (ltB 0 v91) (ς (leB v122.aK.bF (v122.aU.length:Int))) (ς η)) λ(v162:Bool)=>cond v162 (ZU (ix v122.aU (WR (v122.aK.bF-1))) λx163=>ZU (iA v122.aK x163.bm) λr164=>cond r164.2.2 (ZU (mq r164.1.aM) λr165=>ZU (ik v122.ci) λr166=>ZU (cond (leB r165 r166) (ς {v122 with aK:=r164.1}) (ς v122)) λ(v169:ah)=>ς (.next (WR (v91-1),v169))) (ς (.next (WR (v91-1),v122)))) (ς (.done v122))
def zy38(a0:aj):Option (ah×aj):=
 ZU (A3 a0) λr1=>ZU (vI r1.2.2) λr2=>ZU (a9 r2.2 4) λr3=>ZU (oL {r1.2.1 with c9:=r1.1.dq} r2.1 r3.1) λr4=>ZU (a9 r3.2 6) λr5=>ZU (iter (xo) FU (r5.1,r5.2,{r4 with aU:=([]:List b8),aK:=(⟨r4.aK.bF,([]:List ab)⟩:be)})) λ((v78,v79):aj×ah)=>ZU (fD v78 6) λr83=>cond r83.1 (ς (v79,r83.2)) (ZU (a9 r83.2 4) λr84=>ZU (kz v79 {eB with bp:=1,bg:=r84.1}) λr85=>ZU (fD r84.2 6) λr86=>cond r86.1 (ς (r85.bb,r86.2)) (ZU (a9 r86.2 4) λr87=>ZU (i9 r85.bb (⟨3,r87.1,r85.bb.bO,0,r85.bb.aA.uH,c8,0⟩:aT)) λr88=>ZU (a9 r87.2 20) λr89=>ZU (a9 r89.2 4) λr90=>ZU (iter (zy37) FU (r90.1,{r88.bb with ci:={r88.bb.ci with cV:=WR (10+r89.1)}})) λ(v161:ah)=>ς (v161,r90.2)))
instance zy39{a0:aj}{r:ah×aj}:FCW prog (zy38 a0=ς r) 57 (.var 115 (kM [.f] (aO a0))) [tP 200] (.var 115 (kM [.f] (aO r.2))) [.agg (qM [.d,.d,.d] (df r.1))]:=⟨λH=>by
 refine fW func57 ntmps57 ?_
 refine aa H λr1 q1 H=>sA (cw (o:=200) (sl6Pair_c.h q1)) ?_
 refine zI (v0 8) ?_
 refine aa H λr2 q2 H=>wA (cwx (o:=200) (FnV.frzW (Kp.h q2) rfl rfl ⟨by first|rfl|simp,θ⟩ rfl)) ?_
 refine aa H λr3 q3 H=>wA (cwx (o:=200) (bW.h q3)) ?_
 refine aa H λr4 q4 H=>zA (ca (hF:=Tt.h q4)) ?_
 refine wA (spx 100342) ?_
 refine aa H λr5 q5 H=>sA (cw (o:=200) (bW.h q5)) ?_
 obtain⟨⟨v78,v79⟩,Hj,H⟩:=ob H
 refine jB ⟨[(0,tP 200),(2,tP 210),(5,tP 214)],(oM [.w 213,.n 215,.n 216] 214 76 (df v79)++[(200,.var 115 (kM [.f] (aO v78))),(210,.var 76 (kM [.z,.z,.z] (df EF)))]),217⟩ ?_ ?_
 .refine iT Hj (λq=>⟨[(0,tP 200),(2,tP 210),(5,tP 214),(6,tI q.1)],(oM [.w 213,.n 215,.n 216] 214 76 (df q.2.2)++[(200,.var 115 (kM [.f] (aO q.2.1))),(210,.var 76 (kM [.z,.z,.z] (df EF)))]),217⟩) ?_ (by refine aJ (eo (o:=214) (j:=23) 176 1 ζ) ?_;refine aJ (eo (o:=214) (j:=25) 163 2 ζ) ?_;refine aJ (wB 215 (([]:List b8).length)) ?_;refine aJ (wB 216 (([]:List ab).length)) ?_;exact wo)
  rintro⟨v6,v40,v41⟩ o H
  refine ad ?_
  refine cC H ?_ ?_<;>intro H
  .refine zI (v0 10) ?_
   refine aa H λr80 q80 H=>wA (cwx (o:=200) (bW.h q80)) ?_
   refine aa H λr81 q81 H=>wA (cwx (o:=200) (tZ.h q81)) ?_
   refine aa H λr82 q82 H=>zA (ca (hF:=Ax.h q82)) ?_
   refine wA (spx 100323) ?_
   cases H
   refine qF ?_
   refine aJ (fE 219) ?_
   refine aJ (fE 220) ?_
   refine aJ (wS 213 218) ?_
   refine aJ (wS 215 219) ?_
   refine aJ (wS 216 220) ?_
   exact wo
  exact aE H
 refine aa H λr83 q83 H=>sA (cw (o:=200) (jh.h q83)) ?_
 refine cC H ?_ ?_<;>intro H
 .cases H
  refine tv (gm 216) ?_
  refine tv (gm 215) ?_
  refine tv (eG (o:=213)) ?_
  refine tv (fP (o:=210)) ?_
  exact p4
 refine zI (v0 7) ?_
 refine aa H λr84 q84 H=>wA (cwx (o:=200) (bW.h q84)) ?_
 refine aa H λr85 q85 H=>zA (ca (hF:=Oe.h q85)) ?_
 refine wA (spx 100341) ?_
 refine aa H λr86 q86 H=>sA (cw (o:=200) (jh.h q86)) ?_
 refine cC H ?_ ?_<;>intro H
 .cases H
  refine tv (eG (o:=217)) ?_
  refine tv (eG (o:=218)) ?_
  refine tv (eG (o:=219)) ?_
  refine tv (fP (o:=210)) ?_
  exact p4
 refine zI (v0 12) ?_
 refine aa H λr87 q87 H=>wA (cwx (o:=200) (bW.h q87)) ?_
 refine aa H λr88 q88 H=>zA (ca (hF:=Kh.h q88)) ?_
 refine wA (spx 100340) ?_
 refine aa H λr89 q89 H=>sA (cw (o:=200) (bW.h q89)) ?_
 refine aa H λr90 q90 H=>sA (cw (o:=200) (bW.h q90)) ?_
 refine aa H λv161 Hj H=>jB ⟨[(2,tP 210),(5,tP 214)],[(200,.var 115 (kM [.f] (aO r90.2))),(210,.var 76 (kM [.z,.z,.z] (df EF))),(214,.var 76 (kM [.t,.t,.t] (df v161)))],222⟩ ?_ ?_
 .refine iT Hj (λq=>⟨[(2,tP 210),(5,tP 214),(7,tI q.1)],[(200,.var 115 (kM [.f] (aO r90.2))),(210,.var 76 (kM [.z,.z,.z] (df EF))),(214,.var 76 (kM [.t,.t,.t] (df q.2)))],222⟩) ?_
  rintro⟨v91,v122⟩ o H
  refine ad ?_
  refine aa H λv162 Hj H=>jR ⟨[(2,tP 210),(5,tP 214),(7,tI v91),(80,tB v162)],[(200,.var 115 (kM [.f] (aO r90.2))),(210,.var 76 (kM [.z,.z,.z] (df EF))),(214,.var 76 (kM [.t,.t,.t] (df v122)))],222⟩ ?_ ?_
  .exact az Hj
  refine cC H ?_ ?_<;>intro H
  .refine zI (v0 21) ?_
   refine aa H λx163 hx163 H=>zA (xdT (enc:=er) hx163) ?_
   obtain⟨r164,q164,H⟩:=ob H
   rcases hb:r164.2.2 with _|_
   .have H:=bf hb H
    refine gA rfl (ca (hF:=vp q164 hb)) ?_
    simp only[hb]
    refine wI ?_
    refine wA (spx 100339) ?_
    refine wA (spx 100338) ?_
    refine dI ?_
    refine wI ?_
    exact aN H
   have H:=bt hb H
   refine gA rfl (ca (hF:=vq q164 hb)) ?_
   simp only[hb]
   refine wI ?_
   refine wA (spx 100337) ?_
   refine wA (spx 100336) ?_
   refine dI ?_
   refine aa H λr165 q165 H=>dG (ca (hF:=VY.h q165)) ?_
   refine aa H λr166 q166 H=>dG (ca (hF:=Mv.h q166)) ?_
   refine wI ?_
   refine aa H λv169 Hj H=>jA ⟨[(2,tP 210),(5,tP 214),(7,tI v91),(103,tI r165),(104,.v (.c (.p 214 27))),(105,.v (.agg (kM [] (Fk v122.ci)))),(106,tI r166),(107,tB (leB r165 r166))],[(200,.var 115 (kM [.f] (aO r90.2))),(210,.var 76 (kM [.z,.z,.z] (df EF))),(214,.var 76 (kM [.t,.t,.t] (df v169)))],226⟩ ?_ ?_
   .refine cC Hj ?_ ?_<;>intro H
    .cases H
     refine aJ (eG (o:=222)) ?_
     refine aJ (fc (k:=96)) ?_
     refine aJ (fc (k:=102)) ?_
     refine aJ (fc (k:=109)) ?_
     refine aJ (fP (o:=214)) ?_
     refine aJ (fP (o:=224)) ?_
     exact wo
    exact ai H
   exact aN H
  exact aE H
 cases H
 exact p4⟩
def zy40(a0:aj):Option (ah×aj):=
 ZU (zy38 a0) λr1=>ZU (a9 r1.2 14) λr2=>ZU (cond (eqB r2.1 0) (ZU (a9 r2.2 4) λr38=>ς (r38.2,{r1.1 with bB:=WR (r38.1-1)})) (ZU (cond (eqB r2.1 1) (ZU (fg r2.2 [0,-1,2147483647]) λr74=>ς (r74.2,{r1.1 with bj:=r74.1})) (ZU (cond (eqB r2.1 2) (ZU (fg r2.2 [-1,999999,1000000]) λr110=>ς (r110.2,{r1.1 with bO:=r110.1})) (ZU (cond (eqB r2.1 3) (ZU (fg r2.2 [-1,999999,1000000]) λr146=>ς (r146.2,{r1.1 with aZ:=r146.1})) (ZU (cond (eqB r2.1 4) (ZU (fg r2.2 [-1,5,6]) λr182=>ς (r182.2,{r1.1 with eg:=r182.1})) (ZU (cond (eqB r2.1 5) (ZU (zy14 r2.2) λr218=>ς (r218.2,{r1.1 with aK:=r218.1})) (ZU (cond (eqB r2.1 6) (ZU (a9 r2.2 4) λr226=>ς (r226.2,{r1.1 with ci:={r1.1.ci with cV:=r226.1}})) (ZU (cond (eqB r2.1 7) (ZU (fg r2.2 [-1,5,6]) λr232=>ς (r232.1,r232.2)) (ς (r1.1.bg,r2.2))) λ((v230,v231):Int×aj)=>ς (v231,{r1.1 with bg:=v230}))) λ((v224,v225):aj×ah)=>ς (v224,v225))) λ((v216,v217):aj×ah)=>ς (v216,v217))) λ((v180,v181):aj×ah)=>ς (v180,v181))) λ((v144,v145):aj×ah)=>ς (v144,v145))) λ((v108,v109):aj×ah)=>ς (v108,v109))) λ((v72,v73):aj×ah)=>ς (v72,v73))) λ((v36,v37):aj×ah)=>ς (v37,v36)
instance EA{a0:aj}{r:ah×aj}:FCW prog (zy40 a0=ς r) 37 (.var 115 (kM [.f] (aO a0))) [tP 200] (.var 115 (kM [.f] (aO r.2))) [.agg (qM [.d,.d,.d] (df r.1))]:=gW func37 ntmps37 (hC 8 (λ(v:aj×ah) sl ob nx=>⟨sl,[(200,.var 115 (kM [.f] (aO v.1))),(211,.var 76 (kM [.t,.t,.t] (df v.2)))]++ob,nx⟩)) (hC 14 (λ(v:aj×ah) sl ob nx=>⟨sl,[(200,.var 115 (kM [.f] (aO v.1))),(211,.var 76 (kM [.t,.t,.t] (df v.2)))]++ob,nx⟩)) (hC 20 (λ(v:aj×ah) sl ob nx=>⟨sl,[(200,.var 115 (kM [.f] (aO v.1))),(211,.var 76 (kM [.t,.t,.t] (df v.2)))]++ob,nx⟩)) (hC 26 (λ(v:aj×ah) sl ob nx=>⟨sl,[(200,.var 115 (kM [.f] (aO v.1))),(211,.var 76 (kM [.t,.t,.t] (df v.2)))]++ob,nx⟩)) (hC 32 (λ(v:aj×ah) sl ob nx=>⟨sl,[(200,.var 115 (kM [.f] (aO v.1))),(211,.var 76 (kM [.t,.t,.t] (df v.2)))]++ob,nx⟩)) (hC 38 (λ(v:aj×ah) sl ob nx=>⟨sl,[(200,.var 115 (kM [.f] (aO v.1))),(211,.var 76 (kM [.t,.t,.t] (df v.2)))]++ob,nx⟩)) (hC 43 (λ(v:aj×ah) sl ob nx=>⟨sl,[(200,.var 115 (kM [.f] (aO v.1))),(211,.var 76 (kM [.t,.t,.t] (df v.2)))]++ob,nx⟩)) (hC 49 (λ(v:Int×aj) sl ob nx=>⟨sl,[(200,.var 115 (kM [.f] (aO v.2)))]++(uC 211 18 [.d η (.i .i64 v.1)] ob),nx⟩))
def zy41(a0:List Int):Option ah:=
 ZU (rV a0) λr1=>ZU (zy40 r1) λr2=>ς r2.1
instance zy42{a0:List Int}{r:ah}:FC prog (zy41 a0=ς r) 17 [aL (a0.map eU8)] [.agg (qM [.d,.d,.d] (df r))]:=⟨λH=>by
 refine fI func17 ntmps17 ?_
 refine aa H λr1 q1 H=>nA (cn (sS q1) rfl rfl trivial rfl rfl rfl) ?_
 refine aa H λr2 q2 H=>sA (cw (o:=1) (EA.h q2)) ?_
 cases H
 exact dK⟩
end Go.AM
