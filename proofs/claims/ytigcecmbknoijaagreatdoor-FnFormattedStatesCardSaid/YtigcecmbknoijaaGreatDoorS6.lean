/- A part. -/
import Derived.Test.YtigcecmbknoijaaGreatDoorS0
import Derived.Test.YtigcecmbknoijaaGreatDoorS3
set_option linter.unusedVariables false
open Option renaming some->ς,none->ξ
open Bool renaming true->ζ,false->η
open True renaming intro->θ
open Option renaming bind->ZS
namespace Go.AM
open Go.Proofs
open Tryz
attribute [local irreducible] AWN NS AWO AWR AWC DR DZ cM eN iter
set_option maxRecDepth 100000
set_option maxHeartbeats 40000000
def vB(r1:Int×aj):(Int×List Int×Int×Int×List Int)->Option (cH (Int×List Int×Int×Int×List Int) (List Int×Int×Int×List Int))
 |(v2,v3,v4,v5,v6)=>cond (ltB v2 (WR (2+r1.1))) (ZS (a9 (⟨v3,v4,v5⟩:aj) 2) λr12=>cond (cN 32 (v6++[r12.1]).length) (ς (.next (WR (v2+1),r12.2.fb,r12.2.fi,r12.2.fh,(v6++[r12.1])))) ξ) (ς (.done (v3,v4,v5,v6)))
def vF(v13:Int):(Int×List Int×Int×Int×List (Int×List Int))->Option (cH (Int×List Int×Int×Int×List (Int×List Int)) (List Int×Int×Int×List (Int×List Int)))
 |(v43,v44,v45,v46,v47)=>cond (ltB v43 v13) (ZS (cond (eqB v43 (WR (v13-1))) (ZS (fD (⟨v44,v45,v46⟩:aj) 5) λr62=>cond (!r62.1) (ς (ζ,r62.2.fb,r62.2.fi,r62.2.fh)) (ZS (fD r62.2 4) λr63=>ς (r63.1,r63.2.fb,r63.2.fi,r63.2.fh))) (ZS (fD (⟨v44,v45,v46⟩:aj) 4) λr64=>ς (r64.1,r64.2.fb,r64.2.fi,r64.2.fh))) λ((v58,v59,v60,v61):Bool×List Int×Int×Int)=>ZS (cond v58 (ZS (ni v47 v43 v13) λr65=>ς r65) (ς v47)) λ(v62:List (Int×List Int))=>ς (.next (WR (v43+1),v59,v60,v61,v62))) (ς (.done (v44,v45,v46,v47)))
def vC(r1:Int×aj):(Int×List Int×Int×Int×List (Int×List Int))->Option (cH (Int×List Int×Int×Int×List (Int×List Int)) (List Int×Int×Int×List (Int×List Int)))
 |(v13,v14,v15,v16,v17)=>cond (ltB v13 (WR (2+r1.1))) (ZS (iter (vF v13) FU (0,v14,v15,v16,v17)) λ((v55,v56,v57,v58):List Int×Int×Int×List (Int×List Int))=>ς (.next (WR (v13+1),v55,v56,v57,v58))) (ς (.done (v14,v15,v16,v17)))
def vH(r1:Int×aj)(v66:Int)(v67:List (Int×List Int)):(Int×List Int)->Option (cH (Int×List Int) (List Int))
 |(v79,v80)=>cond (ltB v79 (WR (2+r1.1))) (ZS (ix v67 v66) λx85=>ZS (wy x85.2 v79) λr86=>ZS (cond r86 (cond (cN 8 (v80++[v79]).length) (ς (v80++[v79])) ξ) (ς v80)) λ(v87:List Int)=>ς (.next (WR (v79+1),v87))) (ς (.done v80))
def vG(r1:Int×aj):(Int×List (Int×List Int))->Option (cH (Int×List (Int×List Int)) (List (Int×List Int)))
 |(v66,v67)=>cond (ltB v66 (WR (2+r1.1))) (ZS (iter (vH r1 v66 v67) FU (0,([]:List Int))) λ(v84:List Int)=>ZS (ix v67 v66) λx88=>ς (.next (WR (v66+1),(v67.set (v66).toNat (x88.1,v84))))) (ς (.done v67))
def mn(a0:aj):Option (List (Int×List Int)×aj):=
 ZS (a9 a0 4) λr1=>ZS (iter (vB r1) FU (0,r1.2.fb,r1.2.fi,r1.2.fh,([]:List Int))) λ((v8,v9,v10,v11):List Int×Int×Int×List Int)=>ZS (iter (vC r1) FU (1,v8,v9,v10,v11.map λa=>(a,[]))) λ((v40,v41,v42,v43):List Int×Int×Int×List (Int×List Int))=>ZS (iter (vG r1) FU (0,v43)) λ(v78:List (Int×List Int))=>ς (v78,(⟨v40,v41,v42⟩:aj))
def yU(a0:aj):Option (bi×aj):=
 ZS (mn a0) λr=>ς ((⟨r.1.map λe=>(⟨e.1,e.2⟩:d6)⟩:bi),r.2)
theorem IF{a0:aj}{r:List (Int×List Int)×aj}(H:mn a0=ς r){AQ:Exit->St->Prop}[Clo 85 AQ](hq:AQ .ret ⟨[(2,.v (.c (.p 220 0)))],[(200,.var 115 [.d η (.l (r.2.fb.map eU8)),.d η (.i .i64 r.2.fi),.d η (.i .i64 r.2.fh)]),(220,.var 35 [.wn 222 r.1.length]),(222,.cxo 222 190 3 r.1 ξ)],223⟩):
 ∃c,Tryz.f114.body=ς c/\AWC prog 85 c ⟨[(0,.v (.c (.p 200 0)))],[(200,.var 115 [.d η (.l (a0.fb.map eU8)),.d η (.i .i64 a0.fi),.d η (.i .i64 a0.fh)])],220⟩ AQ:=by
 refine⟨_,rfl,?_⟩
 refine wkz ?_
 refine aa H λr1 q1 H=>eV rfl (cw (o:=200) (bW.h q1) rfl rfl rfl rfl rfl rfl trivial rfl rfl rfl rfl) ?_
 refine wkz ?_
 obtain⟨⟨v8,v9,v10,v11⟩,Hj,H⟩:=ob H
 refine iX ⟨[(0,.v (.c (.p 200 0))),(2,.v (.c (.p 220 0))),(3,.v (.c (.p 221 0))),(4,tI (WR (2+r1.1)))],[(200,.var 115 [.d η (.l (v8.map eU8)),.d η (.i .i64 v9),.d η (.i .i64 v10)]),(220,.var 35 [.nil]),(221,.var 35 [.wn 222 v11.length]),(222,.rown 190 2 (v11.map Nh) ζ)],223⟩ ?_ ?_
 .refine wkz ?_
  refine jy (λ(q:Int×List Int×Int×Int×List Int)=>⟨[(0,.v (.c (.p 200 0))),(2,.v (.c (.p 220 0))),(3,.v (.c (.p 221 0))),(4,tI (WR (2+r1.1))),(5,tI q.1)],[(200,.var 115 [.d η (.l (q.2.1.map eU8)),.d η (.i .i64 q.2.2.1),.d η (.i .i64 q.2.2.2.1)]),(220,.var 35 [.nil]),(221,.var 35 [.wn 222 q.2.2.2.2.length]),(222,.rown 190 2 (q.2.2.2.2.map Nh) ζ)],223⟩) Hj (by refine aJ (eo (o:=221) (j:=0) 190 2 ζ rfl rfl rfl rfl rfl) ?_;refine aJ (gx (o:=222) (n:=([]:List Int).length) rfl rfl (by repeat (first|exact θ|refine⟨by first|rfl|simp,?_⟩)) (by repeat (first|exact θ|refine⟨by first|rfl|simp,?_⟩))) ?_;exact cq ⟨rfl,rfl,rfl,rfl,rfl,rfl,rfl,rfl,rfl,rfl,θ⟩ ⟨rfl,⟨rfl,rfl⟩,rfl,⟨rfl,rfl⟩,rfl,⟨rfl,rfl⟩,rfl,⟨rfl,rfl⟩,θ⟩) ?_
  rintro⟨v2,v3,v4,v5,v6⟩ o H
  try dsimp only
  refine wkz ?_
  refine fm rfl (λh=>?_) (λh=>?_)
  .have H:=bt h H
   refine wkz ?_
   refine jT [0,1,2,3,4,5,6,7,8] Try.follows (by kernel_rfl) (by kernel_rfl) rfl ?_
   refine wkz ?_
   refine aa H λr12 q12 H=>pU rfl (cwx (o:=200) (bW.h q12) rfl rfl rfl rfl rfl rfl trivial rfl rfl rfl rfl) ?_
   refine gA rfl (bdk rfl rfl rfl rfl) ?_
   refine wkz ?_
   obtain⟨h,H⟩:=rq H
   refine tx (by kernel_rfl) rfl (by kernel_rfl) cz (kh rfl (GU (enc:=Nh) (ys:=v6) (zs:=[r12.1]) h (by first|exact List.cons_ne_nil _ _|simp) rfl (λ_=>rfl) (by first|rfl|simp) (.w rfl (by first|rfl|exact lm _|simp)) rfl rfl rfl rfl rfl rfl rfl rfl rfl rfl)) cz rfl ?_
   refine wkz ?_
   refine pU rfl (spx 100015 rfl rfl rfl rfl rfl rfl rfl rfl) ?_
   refine wkz ?_
   cases H
   refine qF ?_
   refine aJ (fE 222 rfl rfl rfl) ?_
   exact cq ⟨rfl,rfl,rfl,rfl,rfl,rfl,rfl,rfl,rfl,rfl,θ⟩ ⟨rfl,⟨rfl,rfl⟩,rfl,⟨rfl,rfl⟩,rfl,⟨rfl,rfl⟩,rfl,⟨rfl,rfl⟩,θ⟩
  have H:=bf h H
  refine wkz ?_
  cases H
  refine wQ (λhq=>?_)
  cases hq
  refine wkz ?_
  exact cq ⟨rfl,rfl,rfl,rfl,rfl,rfl,rfl,rfl,θ⟩ ⟨rfl,⟨rfl,rfl⟩,rfl,⟨rfl,rfl⟩,rfl,⟨rfl,rfl⟩,rfl,⟨rfl,rfl⟩,θ⟩
 refine wkz ?_
 refine fo (MO (o:=222) (nt:=3) (al:=v11) rfl rfl) ?_
 refine fo (gx (o:=222) (n:=(v11.map λa=>((a,[]):Int×List Int)).length) rfl rfl (by repeat (first|exact θ|refine⟨by first|rfl|simp,?_⟩)) (by repeat (first|exact θ|refine⟨by first|rfl|simp,?_⟩))) ?_
 obtain⟨⟨v40,v41,v42,v43⟩,Hj,H⟩:=ob H
 refine iX ⟨[(2,.v (.c (.p 220 0))),(3,.v (.c (.p 221 0))),(4,tI (WR (2+r1.1)))],[(200,.var 115 [.d η (.l (v40.map eU8)),.d η (.i .i64 v41),.d η (.i .i64 v42)]),(220,.var 35 [.nil]),(221,.var 35 [.wn 222 v43.length]),(222,.cxo 222 190 3 v43 ξ)],223⟩ ?_ ?_
 .refine wkz ?_
  refine jy (λ(q:Int×List Int×Int×Int×List (Int×List Int))=>⟨[(0,.v (.c (.p 200 0))),(2,.v (.c (.p 220 0))),(3,.v (.c (.p 221 0))),(4,tI (WR (2+r1.1))),(6,tI q.1)],[(200,.var 115 [.d η (.l (q.2.1.map eU8)),.d η (.i .i64 q.2.2.1),.d η (.i .i64 q.2.2.2.1)]),(220,.var 35 [.nil]),(221,.var 35 [.wn 222 q.2.2.2.2.length]),(222,.cxo 222 190 3 q.2.2.2.2 ξ)],223⟩) Hj (cq ⟨rfl,rfl,rfl,rfl,rfl,rfl,rfl,rfl,rfl,rfl,θ⟩ ⟨rfl,⟨rfl,rfl⟩,rfl,⟨rfl,rfl⟩,rfl,⟨rfl,rfl⟩,rfl,⟨rfl,rfl⟩,θ⟩) ?_
  rintro⟨v13,v14,v15,v16,v17⟩ o H
  try dsimp only
  refine wkz ?_
  refine fm rfl (λh=>?_) (λh=>?_)
  .have H:=bt h H
   refine wkz ?_
   obtain⟨⟨v55,v56,v57,v58⟩,Hj,H⟩:=ob H
   refine iX ⟨[(0,.v (.c (.p 200 0))),(2,.v (.c (.p 220 0))),(3,.v (.c (.p 221 0))),(4,tI (WR (2+r1.1))),(6,tI v13)],[(200,.var 115 [.d η (.l (v55.map eU8)),.d η (.i .i64 v56),.d η (.i .i64 v57)]),(220,.var 35 [.nil]),(221,.var 35 [.wn 222 v58.length]),(222,.cxo 222 190 3 v58 ξ)],223⟩ ?_ ?_
   .refine wkz ?_
    refine jy (λ(q:Int×List Int×Int×Int×List (Int×List Int))=>⟨[(0,.v (.c (.p 200 0))),(2,.v (.c (.p 220 0))),(3,.v (.c (.p 221 0))),(4,tI (WR (2+r1.1))),(6,tI v13),(7,tI q.1)],[(200,.var 115 [.d η (.l (q.2.1.map eU8)),.d η (.i .i64 q.2.2.1),.d η (.i .i64 q.2.2.2.1)]),(220,.var 35 [.nil]),(221,.var 35 [.wn 222 q.2.2.2.2.length]),(222,.cxo 222 190 3 q.2.2.2.2 ξ)],223⟩) Hj (cq ⟨rfl,rfl,rfl,rfl,rfl,rfl,rfl,rfl,rfl,rfl,rfl,rfl,θ⟩ ⟨rfl,⟨rfl,rfl⟩,rfl,⟨rfl,rfl⟩,rfl,⟨rfl,rfl⟩,rfl,⟨rfl,rfl⟩,θ⟩) ?_
    rintro⟨v43,v44,v45,v46,v47⟩ o H
    try dsimp only
    refine wkz ?_
    refine fm rfl (λh=>?_) (λh=>?_)
    .have H:=bt h H
     refine wkz ?_
     obtain⟨⟨v58,v59,v60,v61⟩,Hj,H⟩:=ob H
     refine yb ⟨[(0,.v (.c (.p 200 0))),(2,.v (.c (.p 220 0))),(3,.v (.c (.p 221 0))),(4,tI (WR (2+r1.1))),(6,tI v13),(7,tI v43),(50,tB v58)],[(200,.var 115 [.d η (.l (v59.map eU8)),.d η (.i .i64 v60),.d η (.i .i64 v61)]),(220,.var 35 [.nil]),(221,.var 35 [.wn 222 v47.length]),(222,.cxo 222 190 3 v47 ξ)],223⟩ ?_ ?_
     .have H:=Hj
      refine wkz ?_
      refine g2 rfl rfl rfl (λh=>?_) (λh=>?_)
      .have H:=bt h H
       refine wkz ?_
       refine aa H λr62 q62 H=>fX rfl rfl (cO rfl) rfl (cw (o:=200) (jh.h q62) rfl rfl rfl rfl rfl rfl trivial rfl rfl rfl rfl) ?_
       refine wkz ?_
       refine g2 rfl rfl rfl (λh=>?_) (λh=>?_)
       .have H:=bt h H
        refine wkz ?_
        cases H
        exact cq ⟨rfl,rfl,rfl,rfl,rfl,rfl,rfl,rfl,rfl,rfl,rfl,rfl,rfl,rfl,θ⟩ ⟨rfl,⟨rfl,rfl⟩,rfl,⟨rfl,rfl⟩,rfl,⟨rfl,rfl⟩,rfl,⟨rfl,rfl⟩,θ⟩
       have H:=bf h H
       refine wkz ?_
       refine aa H λr63 q63 H=>fX rfl rfl (cO rfl) rfl (cw (o:=200) (jh.h q63) rfl rfl rfl rfl rfl rfl trivial rfl rfl rfl rfl) ?_
       refine wkz ?_
       cases H
       exact cq ⟨rfl,rfl,rfl,rfl,rfl,rfl,rfl,rfl,rfl,rfl,rfl,rfl,rfl,rfl,θ⟩ ⟨rfl,⟨rfl,rfl⟩,rfl,⟨rfl,rfl⟩,rfl,⟨rfl,rfl⟩,rfl,⟨rfl,rfl⟩,θ⟩
      have H:=bf h H
      refine wkz ?_
      refine aa H λr64 q64 H=>fX rfl rfl (cO rfl) rfl (cw (o:=200) (jh.h q64) rfl rfl rfl rfl rfl rfl trivial rfl rfl rfl rfl) ?_
      refine wkz ?_
      cases H
      exact cq ⟨rfl,rfl,rfl,rfl,rfl,rfl,rfl,rfl,rfl,rfl,rfl,rfl,rfl,rfl,θ⟩ ⟨rfl,⟨rfl,rfl⟩,rfl,⟨rfl,rfl⟩,rfl,⟨rfl,rfl⟩,rfl,⟨rfl,rfl⟩,θ⟩
     refine wkz ?_
     refine aa H λv62 Hj H=>km ⟨[(0,.v (.c (.p 200 0))),(2,.v (.c (.p 220 0))),(3,.v (.c (.p 221 0))),(4,tI (WR (2+r1.1))),(6,tI v13),(7,tI v43)],[(200,.var 115 [.d η (.l (v59.map eU8)),.d η (.i .i64 v60),.d η (.i .i64 v61)]),(220,.var 35 [.nil]),(221,.var 35 [.wn 222 v62.length]),(222,.cxo 222 190 3 v62 ξ)],223⟩ ?_ ?_
     .have H:=Hj
      refine wkz ?_
      refine fm rfl (λh=>?_) (λh=>?_)
      .have H:=bt h H
       refine wkz ?_
       obtain⟨r65,q65,H⟩:=ob H
       obtain⟨cJ,hcJ,hJ⟩:=IH (fb:=v59.map eU8) (fi:=v60) (fh:=v61) q65 rfl
       refine eV rfl (Q0 (m:=[(200,200),(202,220),(203,221),(222,222)]) (m':=[(200,200),(202,220),(203,221),(222,222)]) (nx':=223) func161 hcJ (by kernel_rfl) ntmps161 rfl hJ rfl rfl rfl rfl rfl rfl rfl rfl rfl rfl rfl) ?_
       refine wkz ?_
       cases H
       refine aJ (gx (o:=222) (n:=v62.length) rfl rfl (by repeat (first|exact θ|refine⟨by first|rfl|exact(iC q65).symm|exact iC q65|simp,?_⟩)) (by repeat (first|exact θ|refine⟨by first|rfl|exact(iC q65).symm|exact iC q65|simp,?_⟩))) ?_
       exact cq ⟨rfl,rfl,rfl,rfl,rfl,rfl,rfl,rfl,rfl,rfl,rfl,rfl,θ⟩ ⟨rfl,⟨rfl,rfl⟩,rfl,⟨rfl,rfl⟩,rfl,⟨rfl,rfl⟩,rfl,⟨rfl,rfl⟩,θ⟩
      have H:=bf h H
      refine wkz ?_
      cases H
      exact cq ⟨rfl,rfl,rfl,rfl,rfl,rfl,rfl,rfl,rfl,rfl,rfl,rfl,θ⟩ ⟨rfl,⟨rfl,rfl⟩,rfl,⟨rfl,rfl⟩,rfl,⟨rfl,rfl⟩,rfl,⟨rfl,rfl⟩,θ⟩
     refine wkz ?_
     cases H
     refine qF ?_
     exact cq ⟨rfl,rfl,rfl,rfl,rfl,rfl,rfl,rfl,rfl,rfl,rfl,rfl,θ⟩ ⟨rfl,⟨rfl,rfl⟩,rfl,⟨rfl,rfl⟩,rfl,⟨rfl,rfl⟩,rfl,⟨rfl,rfl⟩,θ⟩
    have H:=bf h H
    refine wkz ?_
    cases H
    refine wQ (λhq=>?_)
    cases hq
    refine wkz ?_
    exact cq ⟨rfl,rfl,rfl,rfl,rfl,rfl,rfl,rfl,rfl,rfl,θ⟩ ⟨rfl,⟨rfl,rfl⟩,rfl,⟨rfl,rfl⟩,rfl,⟨rfl,rfl⟩,rfl,⟨rfl,rfl⟩,θ⟩
   refine wkz ?_
   cases H
   refine qF ?_
   exact cq ⟨rfl,rfl,rfl,rfl,rfl,rfl,rfl,rfl,rfl,rfl,θ⟩ ⟨rfl,⟨rfl,rfl⟩,rfl,⟨rfl,rfl⟩,rfl,⟨rfl,rfl⟩,rfl,⟨rfl,rfl⟩,θ⟩
  have H:=bf h H
  refine wkz ?_
  cases H
  refine wQ (λhq=>?_)
  cases hq
  refine wkz ?_
  exact cq ⟨rfl,rfl,rfl,rfl,rfl,rfl,θ⟩ ⟨rfl,⟨rfl,rfl⟩,rfl,⟨rfl,rfl⟩,rfl,⟨rfl,rfl⟩,rfl,⟨rfl,rfl⟩,θ⟩
 refine wkz ?_
 refine aa H λv78 Hj H=>iX ⟨[(2,.v (.c (.p 220 0))),(3,.v (.c (.p 221 0)))],[(200,.var 115 [.d η (.l (v40.map eU8)),.d η (.i .i64 v41),.d η (.i .i64 v42)]),(220,.var 35 [.nil]),(221,.var 35 [.wn 222 v78.length]),(222,.cxo 222 190 3 v78 ξ)],223⟩ ?_ ?_
 .refine wkz ?_
  refine jy (λ(q:Int×List (Int×List Int))=>⟨[(2,.v (.c (.p 220 0))),(3,.v (.c (.p 221 0))),(4,tI (WR (2+r1.1))),(8,tI q.1)],[(200,.var 115 [.d η (.l (v40.map eU8)),.d η (.i .i64 v41),.d η (.i .i64 v42)]),(220,.var 35 [.nil]),(221,.var 35 [.wn 222 q.2.length]),(222,.cxo 222 190 3 q.2 ξ)],223⟩) Hj (cq ⟨rfl,rfl,rfl,rfl,rfl,rfl,rfl,rfl,θ⟩ ⟨rfl,⟨rfl,rfl⟩,rfl,⟨rfl,rfl⟩,rfl,⟨rfl,rfl⟩,rfl,⟨rfl,rfl⟩,θ⟩) ?_
  rintro⟨v66,v67⟩ o H
  try dsimp only
  refine wkz ?_
  refine fm rfl (λh=>?_) (λh=>?_)
  .have H:=bt h H
   refine wkz ?_
   refine aa H λv84 Hj H=>iX ⟨[(2,.v (.c (.p 220 0))),(3,.v (.c (.p 221 0))),(4,tI (WR (2+r1.1))),(8,tI v66),(9,.v (.c (.w 223 v84.length)))],[(200,.var 115 [.d η (.l (v40.map eU8)),.d η (.i .i64 v41),.d η (.i .i64 v42)]),(220,.var 35 [.nil]),(221,.var 35 [.wn 222 v67.length]),(222,.cxo 222 190 3 v67 ξ),(223,.row 3 1 (v84.map eI) ζ ζ)],224⟩ ?_ ?_
   .refine wkz ?_
    refine jy (λ(q:Int×List Int)=>⟨[(2,.v (.c (.p 220 0))),(3,.v (.c (.p 221 0))),(4,tI (WR (2+r1.1))),(8,tI v66),(9,.v (.c (.w 223 q.2.length))),(10,tI q.1)],[(200,.var 115 [.d η (.l (v40.map eU8)),.d η (.i .i64 v41),.d η (.i .i64 v42)]),(220,.var 35 [.nil]),(221,.var 35 [.wn 222 v67.length]),(222,.cxo 222 190 3 v67 ξ),(223,.row 3 1 (q.2.map eI) ζ ζ)],224⟩) Hj (cq ⟨rfl,rfl,rfl,rfl,rfl,rfl,rfl,rfl,wn rfl (by first|rfl|simp),rfl,rfl,rfl,θ⟩ ⟨rfl,⟨rfl,rfl⟩,rfl,⟨rfl,rfl⟩,rfl,⟨rfl,rfl⟩,rfl,⟨rfl,rfl⟩,rfl,⟨rfl,rfl⟩,θ⟩) ?_
    rintro⟨v79,v80⟩ o H
    try dsimp only
    refine wkz ?_
    refine fm rfl (λh=>?_) (λh=>?_)
    .have H:=bt h H
     refine wkz ?_
     refine aa H λx85 hx85 H=>o6 rfl (mb hx85 rfl rfl rfl rfl) ?_
     refine wkz ?_
     refine o6 rfl (olx (ixE hx85).2 rfl rfl rfl) ?_
     refine wkz ?_
     refine aa H λr86 q86 H=>o6 rfl (ca rfl rfl rfl (Eo.h q86) trivial rfl rfl rfl rfl) ?_
     refine wkz ?_
     refine aa H λv87 Hj H=>km ⟨[(2,.v (.c (.p 220 0))),(3,.v (.c (.p 221 0))),(4,tI (WR (2+r1.1))),(8,tI v66),(9,.v (.c (.w 223 v87.length))),(10,tI v79)],[(200,.var 115 [.d η (.l (v40.map eU8)),.d η (.i .i64 v41),.d η (.i .i64 v42)]),(220,.var 35 [.nil]),(221,.var 35 [.wn 222 v67.length]),(222,.cxo 222 190 3 v67 ξ),(223,.row 3 1 (v87.map eI) ζ ζ)],224⟩ ?_ ?_
     .have H:=Hj
      refine wkz ?_
      refine fm rfl (λh=>?_) (λh=>?_)
      .have H:=bt h H
       refine wkz ?_
       obtain⟨h,H⟩:=rq H
       refine eV rfl (apT (enc:=eI) (ys:=v80) (zs:=[v79]) h) ?_
       refine wkz ?_
       cases H
       exact cq ⟨rfl,rfl,rfl,rfl,rfl,rfl,rfl,rfl,wn rfl (by first|rfl|simp),rfl,rfl,rfl,θ⟩ ⟨rfl,⟨rfl,rfl⟩,rfl,⟨rfl,rfl⟩,rfl,⟨rfl,rfl⟩,rfl,⟨rfl,rfl⟩,rfl,⟨rfl,rfl⟩,θ⟩
      have H:=bf h H
      refine wkz ?_
      cases H
      exact cq ⟨rfl,rfl,rfl,rfl,rfl,rfl,rfl,rfl,wn rfl (by first|rfl|simp),rfl,rfl,rfl,θ⟩ ⟨rfl,⟨rfl,rfl⟩,rfl,⟨rfl,rfl⟩,rfl,⟨rfl,rfl⟩,rfl,⟨rfl,rfl⟩,rfl,⟨rfl,rfl⟩,θ⟩
     refine wkz ?_
     cases H
     refine qF ?_
     exact cq ⟨rfl,rfl,rfl,rfl,rfl,rfl,rfl,rfl,wn rfl (by first|rfl|simp),rfl,rfl,rfl,θ⟩ ⟨rfl,⟨rfl,rfl⟩,rfl,⟨rfl,rfl⟩,rfl,⟨rfl,rfl⟩,rfl,⟨rfl,rfl⟩,rfl,⟨rfl,rfl⟩,θ⟩
    have H:=bf h H
    refine wkz ?_
    cases H
    refine wQ (λhq=>?_)
    cases hq
    refine wkz ?_
    exact cq ⟨rfl,rfl,rfl,rfl,rfl,rfl,rfl,rfl,wn rfl (by first|rfl|simp),rfl,θ⟩ ⟨rfl,⟨rfl,rfl⟩,rfl,⟨rfl,rfl⟩,rfl,⟨rfl,rfl⟩,rfl,⟨rfl,rfl⟩,rfl,⟨rfl,rfl⟩,θ⟩
   refine wkz ?_
   refine aa H λx88 hx88 H=>o6 rfl (mb hx88 rfl rfl rfl rfl) ?_
   refine wkz ?_
   refine eV rfl (uu (o:=222) (s:=223) (ys:=v84) rfl rfl rfl rfl rfl (ixE hx88).2 (.inl rfl) rfl rfl rfl rfl rfl rfl rfl) ?_
   refine wkz ?_
   cases H
   refine qF ?_
   refine aJ (gx (o:=222) (n:=(v67.set (v66).toNat (x88.1,v84)).length) rfl rfl (by repeat (first|exact θ|refine⟨by first|rfl|simp,?_⟩)) (by repeat (first|exact θ|refine⟨by first|rfl|simp,?_⟩))) ?_
   exact cq ⟨rfl,rfl,rfl,rfl,rfl,rfl,rfl,rfl,θ⟩ ⟨rfl,⟨rfl,rfl⟩,rfl,⟨rfl,rfl⟩,rfl,⟨rfl,rfl⟩,rfl,⟨rfl,rfl⟩,θ⟩
  have H:=bf h H
  refine wkz ?_
  cases H
  refine wQ (λhq=>?_)
  cases hq
  refine wkz ?_
  exact cq ⟨rfl,rfl,rfl,rfl,θ⟩ ⟨rfl,⟨rfl,rfl⟩,rfl,⟨rfl,rfl⟩,rfl,⟨rfl,rfl⟩,rfl,⟨rfl,rfl⟩,θ⟩
 refine wkz ?_
 cases H
 refine Vz (N:=85) ?_ hq
 exact cq ⟨rfl,rfl,θ⟩ ⟨rfl,⟨rfl,rfl⟩,rfl,⟨rfl,rfl⟩,rfl,⟨rfl,rfl⟩,θ⟩
theorem IG{a0:aj}{r:List (Int×List Int)×aj}(H:mn a0=ς r){AQ:Exit->St->Prop}[Clo 85 AQ](hq:AQ .ret ⟨[(2,.v (.c (.p 220 0)))],[(200,.var 115 [.d η (.l (r.2.fb.map eU8)),.d η (.i .i64 r.2.fi),.d η (.i .i64 r.2.fh)]),(220,.var 35 [.wn 222 r.1.length]),(222,.cxo 222 190 3 r.1 ξ),(201,.var 35 [.nil])],223⟩):
 ∃c,Tryz.f114.body=ς c/\AWC prog 85 c ⟨[(0,.v (.c (.p 200 0)))],[(200,.var 115 [.d η (.l (a0.fb.map eU8)),.d η (.i .i64 a0.fi),.d η (.i .i64 a0.fh)]),(201,.var 35 [.nil])],220⟩ AQ:=by
 refine⟨_,rfl,?_⟩
 refine wkz ?_
 refine aa H λr1 q1 H=>eV rfl (cw (o:=200) (bW.h q1) rfl rfl rfl rfl rfl rfl trivial rfl rfl rfl rfl) ?_
 refine wkz ?_
 obtain⟨⟨v8,v9,v10,v11⟩,Hj,H⟩:=ob H
 refine iX ⟨[(0,.v (.c (.p 200 0))),(2,.v (.c (.p 220 0))),(3,.v (.c (.p 221 0))),(4,tI (WR (2+r1.1)))],[(200,.var 115 [.d η (.l (v8.map eU8)),.d η (.i .i64 v9),.d η (.i .i64 v10)]),(220,.var 35 [.nil]),(221,.var 35 [.wn 222 v11.length]),(222,.rown 190 2 (v11.map Nh) ζ),(201,.var 35 [.nil])],223⟩ ?_ ?_
 .refine wkz ?_
  refine jy (λ(q:Int×List Int×Int×Int×List Int)=>⟨[(0,.v (.c (.p 200 0))),(2,.v (.c (.p 220 0))),(3,.v (.c (.p 221 0))),(4,tI (WR (2+r1.1))),(5,tI q.1)],[(200,.var 115 [.d η (.l (q.2.1.map eU8)),.d η (.i .i64 q.2.2.1),.d η (.i .i64 q.2.2.2.1)]),(220,.var 35 [.nil]),(221,.var 35 [.wn 222 q.2.2.2.2.length]),(222,.rown 190 2 (q.2.2.2.2.map Nh) ζ),(201,.var 35 [.nil])],223⟩) Hj (by refine aJ (eo (o:=221) (j:=0) 190 2 ζ rfl rfl rfl rfl rfl) ?_;refine aJ (gx (o:=222) (n:=([]:List Int).length) rfl rfl (by repeat (first|exact θ|refine⟨by first|rfl|simp,?_⟩)) (by repeat (first|exact θ|refine⟨by first|rfl|simp,?_⟩))) ?_;exact cq ⟨rfl,rfl,rfl,rfl,rfl,rfl,rfl,rfl,rfl,rfl,θ⟩ ⟨rfl,⟨rfl,rfl⟩,rfl,⟨rfl,rfl⟩,rfl,⟨rfl,rfl⟩,rfl,⟨rfl,rfl⟩,rfl,⟨rfl,rfl⟩,θ⟩) ?_
  rintro⟨v2,v3,v4,v5,v6⟩ o H
  try dsimp only
  refine wkz ?_
  refine fm rfl (λh=>?_) (λh=>?_)
  .have H:=bt h H
   refine wkz ?_
   refine jT [0,1,2,3,4,5,6,7,8] Try.follows (by kernel_rfl) (by kernel_rfl) rfl ?_
   refine wkz ?_
   refine aa H λr12 q12 H=>pU rfl (cwx (o:=200) (bW.h q12) rfl rfl rfl rfl rfl rfl trivial rfl rfl rfl rfl) ?_
   refine gA rfl (bdk rfl rfl rfl rfl) ?_
   refine wkz ?_
   obtain⟨h,H⟩:=rq H
   refine tx (by kernel_rfl) rfl (by kernel_rfl) cz (kh rfl (GU (enc:=Nh) (ys:=v6) (zs:=[r12.1]) h (by first|exact List.cons_ne_nil _ _|simp) rfl (λ_=>rfl) (by first|rfl|simp) (.w rfl (by first|rfl|exact lm _|simp)) rfl rfl rfl rfl rfl rfl rfl rfl rfl rfl)) cz rfl ?_
   refine wkz ?_
   refine pU rfl (spx 100015 rfl rfl rfl rfl rfl rfl rfl rfl) ?_
   refine wkz ?_
   cases H
   refine qF ?_
   refine aJ (fE 222 rfl rfl rfl) ?_
   exact cq ⟨rfl,rfl,rfl,rfl,rfl,rfl,rfl,rfl,rfl,rfl,θ⟩ ⟨rfl,⟨rfl,rfl⟩,rfl,⟨rfl,rfl⟩,rfl,⟨rfl,rfl⟩,rfl,⟨rfl,rfl⟩,rfl,⟨rfl,rfl⟩,θ⟩
  have H:=bf h H
  refine wkz ?_
  cases H
  refine wQ (λhq=>?_)
  cases hq
  refine wkz ?_
  exact cq ⟨rfl,rfl,rfl,rfl,rfl,rfl,rfl,rfl,θ⟩ ⟨rfl,⟨rfl,rfl⟩,rfl,⟨rfl,rfl⟩,rfl,⟨rfl,rfl⟩,rfl,⟨rfl,rfl⟩,rfl,⟨rfl,rfl⟩,θ⟩
 refine wkz ?_
 refine fo (MO (o:=222) (nt:=3) (al:=v11) rfl rfl) ?_
 refine fo (gx (o:=222) (n:=(v11.map λa=>((a,[]):Int×List Int)).length) rfl rfl (by repeat (first|exact θ|refine⟨by first|rfl|simp,?_⟩)) (by repeat (first|exact θ|refine⟨by first|rfl|simp,?_⟩))) ?_
 obtain⟨⟨v40,v41,v42,v43⟩,Hj,H⟩:=ob H
 refine iX ⟨[(2,.v (.c (.p 220 0))),(3,.v (.c (.p 221 0))),(4,tI (WR (2+r1.1)))],[(200,.var 115 [.d η (.l (v40.map eU8)),.d η (.i .i64 v41),.d η (.i .i64 v42)]),(220,.var 35 [.nil]),(221,.var 35 [.wn 222 v43.length]),(222,.cxo 222 190 3 v43 ξ),(201,.var 35 [.nil])],223⟩ ?_ ?_
 .refine wkz ?_
  refine jy (λ(q:Int×List Int×Int×Int×List (Int×List Int))=>⟨[(0,.v (.c (.p 200 0))),(2,.v (.c (.p 220 0))),(3,.v (.c (.p 221 0))),(4,tI (WR (2+r1.1))),(6,tI q.1)],[(200,.var 115 [.d η (.l (q.2.1.map eU8)),.d η (.i .i64 q.2.2.1),.d η (.i .i64 q.2.2.2.1)]),(220,.var 35 [.nil]),(221,.var 35 [.wn 222 q.2.2.2.2.length]),(222,.cxo 222 190 3 q.2.2.2.2 ξ),(201,.var 35 [.nil])],223⟩) Hj (cq ⟨rfl,rfl,rfl,rfl,rfl,rfl,rfl,rfl,rfl,rfl,θ⟩ ⟨rfl,⟨rfl,rfl⟩,rfl,⟨rfl,rfl⟩,rfl,⟨rfl,rfl⟩,rfl,⟨rfl,rfl⟩,rfl,⟨rfl,rfl⟩,θ⟩) ?_
  rintro⟨v13,v14,v15,v16,v17⟩ o H
  try dsimp only
  refine wkz ?_
  refine fm rfl (λh=>?_) (λh=>?_)
  .have H:=bt h H
   refine wkz ?_
   obtain⟨⟨v55,v56,v57,v58⟩,Hj,H⟩:=ob H
   refine iX ⟨[(0,.v (.c (.p 200 0))),(2,.v (.c (.p 220 0))),(3,.v (.c (.p 221 0))),(4,tI (WR (2+r1.1))),(6,tI v13)],[(200,.var 115 [.d η (.l (v55.map eU8)),.d η (.i .i64 v56),.d η (.i .i64 v57)]),(220,.var 35 [.nil]),(221,.var 35 [.wn 222 v58.length]),(222,.cxo 222 190 3 v58 ξ),(201,.var 35 [.nil])],223⟩ ?_ ?_
   .refine wkz ?_
    refine jy (λ(q:Int×List Int×Int×Int×List (Int×List Int))=>⟨[(0,.v (.c (.p 200 0))),(2,.v (.c (.p 220 0))),(3,.v (.c (.p 221 0))),(4,tI (WR (2+r1.1))),(6,tI v13),(7,tI q.1)],[(200,.var 115 [.d η (.l (q.2.1.map eU8)),.d η (.i .i64 q.2.2.1),.d η (.i .i64 q.2.2.2.1)]),(220,.var 35 [.nil]),(221,.var 35 [.wn 222 q.2.2.2.2.length]),(222,.cxo 222 190 3 q.2.2.2.2 ξ),(201,.var 35 [.nil])],223⟩) Hj (cq ⟨rfl,rfl,rfl,rfl,rfl,rfl,rfl,rfl,rfl,rfl,rfl,rfl,θ⟩ ⟨rfl,⟨rfl,rfl⟩,rfl,⟨rfl,rfl⟩,rfl,⟨rfl,rfl⟩,rfl,⟨rfl,rfl⟩,rfl,⟨rfl,rfl⟩,θ⟩) ?_
    rintro⟨v43,v44,v45,v46,v47⟩ o H
    try dsimp only
    refine wkz ?_
    refine fm rfl (λh=>?_) (λh=>?_)
    .have H:=bt h H
     refine wkz ?_
     obtain⟨⟨v58,v59,v60,v61⟩,Hj,H⟩:=ob H
     refine yb ⟨[(0,.v (.c (.p 200 0))),(2,.v (.c (.p 220 0))),(3,.v (.c (.p 221 0))),(4,tI (WR (2+r1.1))),(6,tI v13),(7,tI v43),(50,tB v58)],[(200,.var 115 [.d η (.l (v59.map eU8)),.d η (.i .i64 v60),.d η (.i .i64 v61)]),(220,.var 35 [.nil]),(221,.var 35 [.wn 222 v47.length]),(222,.cxo 222 190 3 v47 ξ),(201,.var 35 [.nil])],223⟩ ?_ ?_
     .have H:=Hj
      refine wkz ?_
      refine g2 rfl rfl rfl (λh=>?_) (λh=>?_)
      .have H:=bt h H
       refine wkz ?_
       refine aa H λr62 q62 H=>fX rfl rfl (cO rfl) rfl (cw (o:=200) (jh.h q62) rfl rfl rfl rfl rfl rfl trivial rfl rfl rfl rfl) ?_
       refine wkz ?_
       refine g2 rfl rfl rfl (λh=>?_) (λh=>?_)
       .have H:=bt h H
        refine wkz ?_
        cases H
        exact cq ⟨rfl,rfl,rfl,rfl,rfl,rfl,rfl,rfl,rfl,rfl,rfl,rfl,rfl,rfl,θ⟩ ⟨rfl,⟨rfl,rfl⟩,rfl,⟨rfl,rfl⟩,rfl,⟨rfl,rfl⟩,rfl,⟨rfl,rfl⟩,rfl,⟨rfl,rfl⟩,θ⟩
       have H:=bf h H
       refine wkz ?_
       refine aa H λr63 q63 H=>fX rfl rfl (cO rfl) rfl (cw (o:=200) (jh.h q63) rfl rfl rfl rfl rfl rfl trivial rfl rfl rfl rfl) ?_
       refine wkz ?_
       cases H
       exact cq ⟨rfl,rfl,rfl,rfl,rfl,rfl,rfl,rfl,rfl,rfl,rfl,rfl,rfl,rfl,θ⟩ ⟨rfl,⟨rfl,rfl⟩,rfl,⟨rfl,rfl⟩,rfl,⟨rfl,rfl⟩,rfl,⟨rfl,rfl⟩,rfl,⟨rfl,rfl⟩,θ⟩
      have H:=bf h H
      refine wkz ?_
      refine aa H λr64 q64 H=>fX rfl rfl (cO rfl) rfl (cw (o:=200) (jh.h q64) rfl rfl rfl rfl rfl rfl trivial rfl rfl rfl rfl) ?_
      refine wkz ?_
      cases H
      exact cq ⟨rfl,rfl,rfl,rfl,rfl,rfl,rfl,rfl,rfl,rfl,rfl,rfl,rfl,rfl,θ⟩ ⟨rfl,⟨rfl,rfl⟩,rfl,⟨rfl,rfl⟩,rfl,⟨rfl,rfl⟩,rfl,⟨rfl,rfl⟩,rfl,⟨rfl,rfl⟩,θ⟩
     refine wkz ?_
     refine aa H λv62 Hj H=>km ⟨[(0,.v (.c (.p 200 0))),(2,.v (.c (.p 220 0))),(3,.v (.c (.p 221 0))),(4,tI (WR (2+r1.1))),(6,tI v13),(7,tI v43)],[(200,.var 115 [.d η (.l (v59.map eU8)),.d η (.i .i64 v60),.d η (.i .i64 v61)]),(220,.var 35 [.nil]),(221,.var 35 [.wn 222 v62.length]),(222,.cxo 222 190 3 v62 ξ),(201,.var 35 [.nil])],223⟩ ?_ ?_
     .have H:=Hj
      refine wkz ?_
      refine fm rfl (λh=>?_) (λh=>?_)
      .have H:=bt h H
       refine wkz ?_
       obtain⟨r65,q65,H⟩:=ob H
       obtain⟨cJ,hcJ,hJ⟩:=II (fb:=v59.map eU8) (fi:=v60) (fh:=v61) q65 rfl
       refine eV rfl (Q0 (m:=[(200,200),(202,220),(203,221),(222,222),(201,201)]) (m':=[(200,200),(202,220),(203,221),(222,222),(201,201)]) (nx':=223) func161 hcJ (by kernel_rfl) ntmps161 rfl hJ rfl rfl rfl rfl rfl rfl rfl rfl rfl rfl rfl) ?_
       refine wkz ?_
       cases H
       refine aJ (gx (o:=222) (n:=v62.length) rfl rfl (by repeat (first|exact θ|refine⟨by first|rfl|exact(iC q65).symm|exact iC q65|simp,?_⟩)) (by repeat (first|exact θ|refine⟨by first|rfl|exact(iC q65).symm|exact iC q65|simp,?_⟩))) ?_
       exact cq ⟨rfl,rfl,rfl,rfl,rfl,rfl,rfl,rfl,rfl,rfl,rfl,rfl,θ⟩ ⟨rfl,⟨rfl,rfl⟩,rfl,⟨rfl,rfl⟩,rfl,⟨rfl,rfl⟩,rfl,⟨rfl,rfl⟩,rfl,⟨rfl,rfl⟩,θ⟩
      have H:=bf h H
      refine wkz ?_
      cases H
      exact cq ⟨rfl,rfl,rfl,rfl,rfl,rfl,rfl,rfl,rfl,rfl,rfl,rfl,θ⟩ ⟨rfl,⟨rfl,rfl⟩,rfl,⟨rfl,rfl⟩,rfl,⟨rfl,rfl⟩,rfl,⟨rfl,rfl⟩,rfl,⟨rfl,rfl⟩,θ⟩
     refine wkz ?_
     cases H
     refine qF ?_
     exact cq ⟨rfl,rfl,rfl,rfl,rfl,rfl,rfl,rfl,rfl,rfl,rfl,rfl,θ⟩ ⟨rfl,⟨rfl,rfl⟩,rfl,⟨rfl,rfl⟩,rfl,⟨rfl,rfl⟩,rfl,⟨rfl,rfl⟩,rfl,⟨rfl,rfl⟩,θ⟩
    have H:=bf h H
    refine wkz ?_
    cases H
    refine wQ (λhq=>?_)
    cases hq
    refine wkz ?_
    exact cq ⟨rfl,rfl,rfl,rfl,rfl,rfl,rfl,rfl,rfl,rfl,θ⟩ ⟨rfl,⟨rfl,rfl⟩,rfl,⟨rfl,rfl⟩,rfl,⟨rfl,rfl⟩,rfl,⟨rfl,rfl⟩,rfl,⟨rfl,rfl⟩,θ⟩
   refine wkz ?_
   cases H
   refine qF ?_
   exact cq ⟨rfl,rfl,rfl,rfl,rfl,rfl,rfl,rfl,rfl,rfl,θ⟩ ⟨rfl,⟨rfl,rfl⟩,rfl,⟨rfl,rfl⟩,rfl,⟨rfl,rfl⟩,rfl,⟨rfl,rfl⟩,rfl,⟨rfl,rfl⟩,θ⟩
  have H:=bf h H
  refine wkz ?_
  cases H
  refine wQ (λhq=>?_)
  cases hq
  refine wkz ?_
  exact cq ⟨rfl,rfl,rfl,rfl,rfl,rfl,θ⟩ ⟨rfl,⟨rfl,rfl⟩,rfl,⟨rfl,rfl⟩,rfl,⟨rfl,rfl⟩,rfl,⟨rfl,rfl⟩,rfl,⟨rfl,rfl⟩,θ⟩
 refine wkz ?_
 refine aa H λv78 Hj H=>iX ⟨[(2,.v (.c (.p 220 0))),(3,.v (.c (.p 221 0)))],[(200,.var 115 [.d η (.l (v40.map eU8)),.d η (.i .i64 v41),.d η (.i .i64 v42)]),(220,.var 35 [.nil]),(221,.var 35 [.wn 222 v78.length]),(222,.cxo 222 190 3 v78 ξ),(201,.var 35 [.nil])],223⟩ ?_ ?_
 .refine wkz ?_
  refine jy (λ(q:Int×List (Int×List Int))=>⟨[(2,.v (.c (.p 220 0))),(3,.v (.c (.p 221 0))),(4,tI (WR (2+r1.1))),(8,tI q.1)],[(200,.var 115 [.d η (.l (v40.map eU8)),.d η (.i .i64 v41),.d η (.i .i64 v42)]),(220,.var 35 [.nil]),(221,.var 35 [.wn 222 q.2.length]),(222,.cxo 222 190 3 q.2 ξ),(201,.var 35 [.nil])],223⟩) Hj (cq ⟨rfl,rfl,rfl,rfl,rfl,rfl,rfl,rfl,θ⟩ ⟨rfl,⟨rfl,rfl⟩,rfl,⟨rfl,rfl⟩,rfl,⟨rfl,rfl⟩,rfl,⟨rfl,rfl⟩,rfl,⟨rfl,rfl⟩,θ⟩) ?_
  rintro⟨v66,v67⟩ o H
  try dsimp only
  refine wkz ?_
  refine fm rfl (λh=>?_) (λh=>?_)
  .have H:=bt h H
   refine wkz ?_
   refine aa H λv84 Hj H=>iX ⟨[(2,.v (.c (.p 220 0))),(3,.v (.c (.p 221 0))),(4,tI (WR (2+r1.1))),(8,tI v66),(9,.v (.c (.w 223 v84.length)))],[(200,.var 115 [.d η (.l (v40.map eU8)),.d η (.i .i64 v41),.d η (.i .i64 v42)]),(220,.var 35 [.nil]),(221,.var 35 [.wn 222 v67.length]),(222,.cxo 222 190 3 v67 ξ),(223,.row 3 1 (v84.map eI) ζ ζ),(201,.var 35 [.nil])],224⟩ ?_ ?_
   .refine wkz ?_
    refine jy (λ(q:Int×List Int)=>⟨[(2,.v (.c (.p 220 0))),(3,.v (.c (.p 221 0))),(4,tI (WR (2+r1.1))),(8,tI v66),(9,.v (.c (.w 223 q.2.length))),(10,tI q.1)],[(200,.var 115 [.d η (.l (v40.map eU8)),.d η (.i .i64 v41),.d η (.i .i64 v42)]),(220,.var 35 [.nil]),(221,.var 35 [.wn 222 v67.length]),(222,.cxo 222 190 3 v67 ξ),(223,.row 3 1 (q.2.map eI) ζ ζ),(201,.var 35 [.nil])],224⟩) Hj (cq ⟨rfl,rfl,rfl,rfl,rfl,rfl,rfl,rfl,wn rfl (by first|rfl|simp),rfl,rfl,rfl,θ⟩ ⟨rfl,⟨rfl,rfl⟩,rfl,⟨rfl,rfl⟩,rfl,⟨rfl,rfl⟩,rfl,⟨rfl,rfl⟩,rfl,⟨rfl,rfl⟩,rfl,⟨rfl,rfl⟩,θ⟩) ?_
    rintro⟨v79,v80⟩ o H
    try dsimp only
    refine wkz ?_
    refine fm rfl (λh=>?_) (λh=>?_)
    .have H:=bt h H
     refine wkz ?_
     refine aa H λx85 hx85 H=>o6 rfl (mb hx85 rfl rfl rfl rfl) ?_
     refine wkz ?_
     refine o6 rfl (olx (ixE hx85).2 rfl rfl rfl) ?_
     refine wkz ?_
     refine aa H λr86 q86 H=>o6 rfl (ca rfl rfl rfl (Eo.h q86) trivial rfl rfl rfl rfl) ?_
     refine wkz ?_
     refine aa H λv87 Hj H=>km ⟨[(2,.v (.c (.p 220 0))),(3,.v (.c (.p 221 0))),(4,tI (WR (2+r1.1))),(8,tI v66),(9,.v (.c (.w 223 v87.length))),(10,tI v79)],[(200,.var 115 [.d η (.l (v40.map eU8)),.d η (.i .i64 v41),.d η (.i .i64 v42)]),(220,.var 35 [.nil]),(221,.var 35 [.wn 222 v67.length]),(222,.cxo 222 190 3 v67 ξ),(223,.row 3 1 (v87.map eI) ζ ζ),(201,.var 35 [.nil])],224⟩ ?_ ?_
     .have H:=Hj
      refine wkz ?_
      refine fm rfl (λh=>?_) (λh=>?_)
      .have H:=bt h H
       refine wkz ?_
       obtain⟨h,H⟩:=rq H
       refine eV rfl (apT (enc:=eI) (ys:=v80) (zs:=[v79]) h) ?_
       refine wkz ?_
       cases H
       exact cq ⟨rfl,rfl,rfl,rfl,rfl,rfl,rfl,rfl,wn rfl (by first|rfl|simp),rfl,rfl,rfl,θ⟩ ⟨rfl,⟨rfl,rfl⟩,rfl,⟨rfl,rfl⟩,rfl,⟨rfl,rfl⟩,rfl,⟨rfl,rfl⟩,rfl,⟨rfl,rfl⟩,rfl,⟨rfl,rfl⟩,θ⟩
      have H:=bf h H
      refine wkz ?_
      cases H
      exact cq ⟨rfl,rfl,rfl,rfl,rfl,rfl,rfl,rfl,wn rfl (by first|rfl|simp),rfl,rfl,rfl,θ⟩ ⟨rfl,⟨rfl,rfl⟩,rfl,⟨rfl,rfl⟩,rfl,⟨rfl,rfl⟩,rfl,⟨rfl,rfl⟩,rfl,⟨rfl,rfl⟩,rfl,⟨rfl,rfl⟩,θ⟩
     refine wkz ?_
     cases H
     refine qF ?_
     exact cq ⟨rfl,rfl,rfl,rfl,rfl,rfl,rfl,rfl,wn rfl (by first|rfl|simp),rfl,rfl,rfl,θ⟩ ⟨rfl,⟨rfl,rfl⟩,rfl,⟨rfl,rfl⟩,rfl,⟨rfl,rfl⟩,rfl,⟨rfl,rfl⟩,rfl,⟨rfl,rfl⟩,rfl,⟨rfl,rfl⟩,θ⟩
    have H:=bf h H
    refine wkz ?_
    cases H
    refine wQ (λhq=>?_)
    cases hq
    refine wkz ?_
    exact cq ⟨rfl,rfl,rfl,rfl,rfl,rfl,rfl,rfl,wn rfl (by first|rfl|simp),rfl,θ⟩ ⟨rfl,⟨rfl,rfl⟩,rfl,⟨rfl,rfl⟩,rfl,⟨rfl,rfl⟩,rfl,⟨rfl,rfl⟩,rfl,⟨rfl,rfl⟩,rfl,⟨rfl,rfl⟩,θ⟩
   refine wkz ?_
   refine aa H λx88 hx88 H=>o6 rfl (mb hx88 rfl rfl rfl rfl) ?_
   refine wkz ?_
   refine eV rfl (uu (o:=222) (s:=223) (ys:=v84) rfl rfl rfl rfl rfl (ixE hx88).2 (.inl rfl) rfl rfl rfl rfl rfl rfl rfl) ?_
   refine wkz ?_
   cases H
   refine qF ?_
   refine aJ (gx (o:=222) (n:=(v67.set (v66).toNat (x88.1,v84)).length) rfl rfl (by repeat (first|exact θ|refine⟨by first|rfl|simp,?_⟩)) (by repeat (first|exact θ|refine⟨by first|rfl|simp,?_⟩))) ?_
   exact cq ⟨rfl,rfl,rfl,rfl,rfl,rfl,rfl,rfl,θ⟩ ⟨rfl,⟨rfl,rfl⟩,rfl,⟨rfl,rfl⟩,rfl,⟨rfl,rfl⟩,rfl,⟨rfl,rfl⟩,rfl,⟨rfl,rfl⟩,θ⟩
  have H:=bf h H
  refine wkz ?_
  cases H
  refine wQ (λhq=>?_)
  cases hq
  refine wkz ?_
  exact cq ⟨rfl,rfl,rfl,rfl,θ⟩ ⟨rfl,⟨rfl,rfl⟩,rfl,⟨rfl,rfl⟩,rfl,⟨rfl,rfl⟩,rfl,⟨rfl,rfl⟩,rfl,⟨rfl,rfl⟩,θ⟩
 refine wkz ?_
 cases H
 refine Vz (N:=85) ?_ hq
 exact cq ⟨rfl,rfl,θ⟩ ⟨rfl,⟨rfl,rfl⟩,rfl,⟨rfl,rfl⟩,rfl,⟨rfl,rfl⟩,rfl,⟨rfl,rfl⟩,θ⟩
theorem vY(v:List (Int×List Int)):v.map PP=(v.map λe=>(⟨e.1,e.2⟩:d6)).map fw:=by rw[List.map_map];rfl
instance CD{a0:aj}{r:bi×aj}:FCV prog (yU a0=ς r) 114 [(200,.var 115 [.d η (.l (a0.fb.map eU8)),.d η (.i .i64 a0.fi),.d η (.i .i64 a0.fh)])] [.v (.c (.p 200 0))] [(200,.var 115 [.d η (.l (r.2.fb.map eU8)),.d η (.i .i64 r.2.fi),.d η (.i .i64 r.2.fh)])] (.v (.agg [.wn 210 r.1.bI.length])) [(210,.rown 190 2 (r.1.bI.map fw) ζ)]:=⟨λH=>by
 obtain⟨⟨v,cu⟩,hX,H⟩:=ob H
 cases H
 obtain⟨c,hc,h⟩:=IF hX (AQ:=md 85 prog [ResultVar.cell 2 35] [(200,.var 115 [.d η (.l (cu.fb.map eU8)),.d η (.i .i64 cu.fi),.d η (.i .i64 cu.fh)])] (.v (.agg [.wn 210 (v.map λe=>(⟨e.1,e.2⟩:d6)).length])) [(210,.rown 190 2 ((v.map λe=>(⟨e.1,e.2⟩:d6)).map fw) ζ)]) (by
  refine cg (ug (o:=222) rfl rfl rfl rfl rfl) ?_
  rw[vY]
  refine cg (gx (o:=222) (n:=(v.map λe=>(⟨e.1,e.2⟩:d6)).length) rfl rfl (by repeat (first|exact θ|refine⟨by first|rfl|simp,?_⟩)) (by repeat (first|exact θ|refine⟨by first|rfl|simp,?_⟩))) ?_
  refine cg (vS (p:=222) (q:=210) rfl rfl rfl rfl) ?_
  exact dv (.cons (.cell rfl rfl rfl) .nil) rfl (by first|rfl|simp) ⟨rfl,θ⟩ ⟨rfl,θ⟩)
 exact Fl func114 hc (by kernel_rfl) ntmps114 rfl rfl rfl (fo (wM (nx':=220) rfl) h)⟩
end Go.AM
