/- A part. -/
import Derived.Test.YtigcecmbknoijaaGreatDoorS22
import Derived.Test.YtigcecmbknoijaaGreatDoorS23
import Derived.Test.YtigcecmbknoijaaGreatDoorS25
import Derived.Test.YtigcecmbknoijaaGreatDoorS26
set_option linter.unusedVariables false
open Option renaming some->ς,none->ξ
open Bool renaming true->ζ,false->η
open True renaming intro->θ
open Option renaming bind->ZU
namespace Go.AM
open Go.Proofs
open Tryz
attribute [local irreducible] AWN NS AWO AWR AWC DR DZ cM eN iter
set_option maxRecDepth 100000
set_option maxHeartbeats 40000000
def zy56(a0:aj)(a1:Int):Option (ae×aj):=
 ZU (zy50 a0 a1) λr1=>ZU (a9 r1.2 40) λr2=>ZU (cond (eqB r2.1 0) (ZU (AT r2.2) λr18=>ς (r18.2,{r1.1 with d5:=r18.1})) (ZU (cond (eqB r2.1 1) (ZU (AW r2.2) λr34=>ς (r34.2,{r1.1 with gT:=r34.1})) (ZU (cond (eqB r2.1 2) (ZU (fg r2.2 [-1,63,64]) λr50=>ς (r50.2,{r1.1 with cP:=r50.1})) (ZU (cond (eqB r2.1 3) (ZU (y7 r2.2) λr66=>ZU (ix r1.1.av 0) λx67=>ς (r66.2,{r1.1 with av:=(r1.1.av.set ((0:Int)).toNat r66.1)})) (ZU (cond (eqB r2.1 4) (ZU (zy40 r2.2) λr83=>ZU (ix r1.1.aD 0) λx84=>ς (r83.2,{r1.1 with aD:=(r1.1.aD.set ((0:Int)).toNat r83.1)})) (ZU (cond (eqB r2.1 5) (ZU (tY r2.2) λr100=>ZU (ix r1.1.bD 0) λx101=>ς (r100.2,{r1.1 with bD:=(r1.1.bD.set ((0:Int)).toNat r100.1)})) (ZU (cond (eqB r2.1 6) (cond (fa r1.1.aD 1 r1.1.aD.length) (ς (r2.2,{r1.1 with aD:=r1.1.aD.drop ((1:Int)).toNat})) ξ) (ZU (cond (eqB r2.1 7) (ZU (a9 r2.2 5) λr124=>ZU (a9 r124.2 8) λr125=>cond (cN 176 (r1.1.aV++[{fN with bk:=WR (r124.1-1),bg:=WR (r125.1-1)}]).length) (ς (r125.2,{r1.1 with aV:=(r1.1.aV++[{fN with bk:=WR (r124.1-1),bg:=WR (r125.1-1)}])})) ξ) (ZU (cond (eqB r2.1 8) (ς (-1)) (ς r1.1.Lost)) λ(v126:Int)=>ς (r2.2,{r1.1 with Lost:=v126}))) λ((v122,v123):aj×ae)=>ς (v122,v123))) λ((v115,v116):aj×ae)=>ς (v115,v116))) λ((v98,v99):aj×ae)=>ς (v98,v99))) λ((v81,v82):aj×ae)=>ς (v81,v82))) λ((v64,v65):aj×ae)=>ς (v64,v65))) λ((v48,v49):aj×ae)=>ς (v48,v49))) λ((v32,v33):aj×ae)=>ς (v32,v33))) λ((v16,v17):aj×ae)=>ς (v17,v16)
instance OA{a0:aj}{a1:Int}{r:ae×aj}:FCV prog (zy56 a0 a1=ς r) 50 [(200,.var 115 (kM [.f] (aO a0)))] [tP 200,tI a1] [(200,.var 115 (kM [.f] (aO r.2)))] (.v (.agg (kM [.t,.n 210,.t,.n 211,.n 212] (bw r.1)))) [(210,n60 r.1.av),(211,n26 r.1.bD),(212,n85 r.1.aV)]:=⟨λH=>by
 refine fV func50 ntmps50 ?_
 refine aa H λr1 q1 H=>sA (cwv [(200,200)] [(210,211),(211,212),(212,213),(213,214)] 215 (zy51.h q1)) ?_
 refine aa H λr2 q2 H=>sA (cw (o:=200) (bW.h q2)) ?_
 obtain⟨⟨v16,v17⟩,Hj,H⟩:=ob H
 refine jA ⟨[(4,tP 210),(5,tP 215)],(oM [.t,.n 211,.t,.n 213,.n 214] 215 43 (bw v17)++[(200,.var 115 (kM [.f] (aO v16))),(210,.var 43 (kM [.z,.z,.z,.z,.z] (bw {ec with d5:=(⟨[]⟩:bi)})))]),216⟩ ?_ ?_
 .refine cC Hj ?_ ?_<;>intro H
  .refine aa H λr18 q18 H=>sA (cwv [(200,200)] [(210,216)] 217 (Om.h q18)) ?_
   cases H
   refine aJ (gm 216) ?_
   refine aJ (gm 212) ?_
   exact wo
  obtain⟨⟨v32,v33⟩,Hj,H⟩:=ob H
  refine jA ⟨[(4,tP 210),(5,tP 215)],(oM [.t,.n 211,.t,.n 213,.n 214] 215 43 (bw v33)++[(200,.var 115 (kM [.f] (aO v32))),(210,.var 43 (kM [.z,.z,.z,.z,.z] (bw {ec with d5:=(⟨[]⟩:bi)})))]),216⟩ ?_ ?_
  .refine cC Hj ?_ ?_<;>intro H
   .refine aa H λr34 q34 H=>sA (cw (o:=200) (Oo.h q34)) ?_
    cases H
    refine aJ (gm 212) ?_
    exact wo
   obtain⟨⟨v48,v49⟩,Hj,H⟩:=ob H
   refine jA ⟨[(4,tP 210),(5,tP 215)],(oM [.t,.n 211,.t,.n 213,.n 214] 215 43 (bw v49)++[(200,.var 115 (kM [.f] (aO v48))),(210,.var 43 (kM [.z,.z,.z,.z,.z] (bw {ec with d5:=(⟨[]⟩:bi)})))]),216⟩ ?_ ?_
   .refine cC Hj ?_ ?_<;>intro H
    .refine aa H λr50 q50 H=>eC (eG (o:=216)) ?_
     refine eC (fc (k:=24)) ?_
     refine sA (cw (o:=200) (sQ.h q50)) ?_
     cases H
     refine aJ (gm 212) ?_
     exact wo
    obtain⟨⟨v64,v65⟩,Hj,H⟩:=ob H
    refine jA ⟨[(4,tP 210),(5,tP 215)],(oM [.t,.n 211,.t,.n 213,.n 214] 215 43 (bw v65)++[(200,.var 115 (kM [.f] (aO v64))),(210,.var 43 (kM [.z,.z,.z,.z,.z] (bw {ec with d5:=(⟨[]⟩:bi)})))]),216⟩ ?_ ?_
    .refine cC Hj ?_ ?_<;>intro H
     .refine zI (List.range 6) ?_
      refine aa H λr66 q66 H=>wA (cwx (o:=200) (zy53.h q66)) ?_
      refine aa H λx67 hx67 H=>zA (mb hx67) ?_
      refine zB (jL 211 (hne:=uq (enc:=eh) hx67)) (kh rfl (soT (enc:=eh) (a':=r66.1) hx67)) cz ?_
      cases H
      refine aJ (fE 211) ?_
      refine aJ (gm 212) ?_
      refine aJ (wB 211 ((r1.1.av.set ((0:Int)).toNat r66.1).length)) ?_
      exact wo
     obtain⟨⟨v81,v82⟩,Hj,H⟩:=ob H
     refine jA ⟨[(4,tP 210),(5,tP 215)],(oM [.t,.n 211,.t,.n 213,.n 214] 215 43 (bw v82)++[(200,.var 115 (kM [.f] (aO v81))),(210,.var 43 (kM [.z,.z,.z,.z,.z] (bw {ec with d5:=(⟨[]⟩:bi)})))]),216⟩ ?_ ?_
     .refine cC Hj ?_ ?_<;>intro H
      .refine zI (List.range 6) ?_
       refine aa H λr83 q83 H=>wA (cwx (o:=200) (EA.h q83)) ?_
       refine aa H λx84 hx84 H=>zA (mb hx84) ?_
       refine zB (jL 212 (hne:=uq (enc:=cQ) hx84)) (kh rfl (soT (enc:=cQ) (a':=r83.1) hx84)) cz ?_
       cases H
       refine aJ (eG (o:=212)) ?_
       refine aJ (fc (k:=8)) ?_
       refine aJ (fc (k:=37)) ?_
       refine aJ (fP (o:=215)) ?_
       exact wo
      obtain⟨⟨v98,v99⟩,Hj,H⟩:=ob H
      refine jA ⟨[(4,tP 210),(5,tP 215)],(oM [.t,.n 211,.t,.n 213,.n 214] 215 43 (bw v99)++[(200,.var 115 (kM [.f] (aO v98))),(210,.var 43 (kM [.z,.z,.z,.z,.z] (bw {ec with d5:=(⟨[]⟩:bi)})))]),216⟩ ?_ ?_
      .refine cC Hj ?_ ?_<;>intro H
       .refine zI (List.range 6) ?_
        refine aa H λr100 q100 H=>wA (cwx (o:=200) (FnV.frzW (On.h q100) rfl rfl ⟨by first|rfl|simp,θ⟩ rfl)) ?_
        refine aa H λx101 hx101 H=>zA (mb hx101) ?_
        refine zB (jL 213 (hne:=uq (enc:=dX) hx101)) (kh rfl (soT (enc:=dX) (a':=r100.1) hx101)) cz ?_
        cases H
        refine aJ (gm 212) ?_
        refine aJ (fE 213) ?_
        refine aJ (wB 213 ((r1.1.bD.set ((0:Int)).toNat r100.1).length)) ?_
        exact wo
       obtain⟨⟨v115,v116⟩,Hj,H⟩:=ob H
       refine jA ⟨[(4,tP 210),(5,tP 215)],(oM [.t,.n 211,.t,.n 213,.n 214] 215 43 (bw v116)++[(200,.var 115 (kM [.f] (aO v115))),(210,.var 43 (kM [.z,.z,.z,.z,.z] (bw {ec with d5:=(⟨[]⟩:bi)})))]),216⟩ ?_ ?_
       .refine cC Hj ?_ ?_<;>intro H
        .refine aW (gm 212) ?_
         obtain⟨h,H⟩:=rq H
         refine nA (Pn (enc:=cQ) h (λ_=>rfl) rfl rfl rfl) ?_
         exact ai H
        obtain⟨⟨v122,v123⟩,Hj,H⟩:=ob H
        refine jA ⟨[(4,tP 210),(5,tP 215)],(oM [.t,.n 211,.n 212,.n 213,.n 214] 215 43 (bw v123)++[(200,.var 115 (kM [.f] (aO v122))),(210,.var 43 (kM [.z,.z,.z,.z,.z] (bw {ec with d5:=(⟨[]⟩:bi)})))]),216⟩ ?_ ?_
        .refine cC Hj ?_ ?_<;>intro H
         .refine zI (List.range 13) ?_
          refine aa H λr124 q124 H=>wA (cwx (o:=200) (bW.h q124)) ?_
          refine aa H λr125 q125 H=>wA (cwx (o:=200) (bW.h q125)) ?_
          obtain⟨h,H⟩:=rq H
          refine zB cz (kh rfl (GU (enc:=eW) (ys:=r1.1.aV) (zs:=[{fN with bk:=WR (r124.1-1),bg:=WR (r125.1-1)}]) h (by first|exact List.cons_ne_nil _ _|simp) rfl (λ_=>rfl) (by first|rfl|simp) (.w rfl (by first|rfl|exact lm _|simp)) rfl rfl rfl rfl rfl rfl rfl rfl rfl rfl)) cz ?_
          refine wA (spx 101628) ?_
          cases H
          refine aJ (fE 214) ?_
          exact wo
         refine aa H λv126 Hj H=>jA ⟨[(4,tP 210),(5,tP 215)],(oM [.t,.n 211,.n 212,.n 213,.n 214] 215 43 (bw {r1.1 with Lost:=v126})++[(200,.var 115 (kM [.f] (aO r2.2))),(210,.var 43 (kM [.z,.z,.z,.z,.z] (bw {ec with d5:=(⟨[]⟩:bi)})))]),216⟩ ?_ ?_
         .exact az Hj
         exact ai H
        cases H
        refine aJ (gm 212) ?_
        exact wo
       exact ai H
      exact ai H
     exact ai H
    exact ai H
   exact ai H
  exact ai H
 cases H
 refine cg (wS 211 210) ?_
 refine cg (wS 213 211) ?_
 refine cg (wS 214 212) ?_
 exact dv⟩
def vR(a0:List Int)(a1:Int):Option (aj×ae):=
 ZU (rV a0) λr1=>ZU (zy56 r1 a1) λr2=>ς (r2.2,r2.1)
instance XG{a0:List Int}{a1:Int}{r:aj×ae}:FCV prog (vR a0 a1=ς r) 29 [] [.v (.c (.d η (.l (a0.map eU8)))),tI a1] [] (.tup [.c (.p 210 0),.agg (kM [.t,.n 211,.t,.n 212,.n 213] (bw r.2))]) [(210,.var 115 (kM [.f] (aO r.1))),(211,n60 r.2.av),(212,n26 r.2.bD),(213,n85 r.2.aV)]:=⟨λH=>by
 refine fV func29 ntmps29 ?_
 refine aa H λr1 q1 H=>nA (cn (sS q1) rfl rfl trivial rfl rfl rfl) ?_
 refine aa H λr2 q2 H=>sA (cwv [(200,211)] [(210,212),(211,213),(212,214)] 215 (OA.h q2)) ?_
 cases H
 refine cg (wS 211 210) ?_
 refine cg (wS 212 211) ?_
 refine cg (wS 213 212) ?_
 refine cg (wS 214 213) ?_
 exact dv⟩
def zy57(a0:List Int):Option ae:=
 ZU (vR a0 25) λr1=>ς r1.2
instance Iy{a0:List Int}{r:ae}:FCV prog (zy57 a0=ς r) 9 [] [.v (.c (.d η (.l (a0.map eU8))))] [] (.v (.agg (kM [.t,.n 210,.t,.n 211,.n 212] (bw r)))) [(210,n60 r.av),(211,n26 r.bD),(212,n85 r.aV)]:=gV func9 ntmps9
def lV(a0:List Int):Option ae:=
 ZU (vR a0 25) λr1=>ς r1.2
instance Iv{a0:List Int}{r:ae}:FCV prog (lV a0=ς r) 21 [] [.v (.c (.d η (.l (a0.map eU8))))] [] (.v (.agg (kM [.t,.n 210,.t,.n 211,.n 212] (bw r)))) [(210,n60 r.av),(211,n26 r.bD),(212,n85 r.aV)]:=gV func21 ntmps21
end Go.AM
