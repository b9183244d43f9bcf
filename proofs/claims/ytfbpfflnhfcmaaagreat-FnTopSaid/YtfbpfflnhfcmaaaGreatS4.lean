/- A part. -/
import Derived.Test.YtfbpfflnhfcmaaaGreatS2
set_option linter.unusedVariables false
open Option renaming some->ς,none->ξ
open Bool renaming true->ζ,false->η
open True renaming intro->θ
open Option renaming bind->afW
namespace Go.AM
open Go.Proofs
open Tryz
attribute [local irreducible] AWN NS AWO AWR AWC DR DZ dm gK iter
set_option maxRecDepth 100000
set_option maxHeartbeats 40000000
def Fs(r1:Int×bu):(Int×List Int×Int×Int×List Int)->Option (cj (Int×List Int×Int×Int×List Int) (List Int×Int×Int×List Int))
 |(v2,v3,v4,v5,v6)=>cond (ltB v2 (WR (2+r1.1))) (afW (cS (⟨v3,v4,v5⟩:bu) 2) λr12=>cond (da 32 (v6++[r12.1]).length) (ς (.next (WR (v2+1),r12.2.fb,r12.2.fi,r12.2.fh,(v6++[r12.1])))) ξ) (ς (.done (v3,v4,v5,v6)))
def Fu(v13:Int):(Int×List Int×Int×Int×List (Int×List Int))->Option (cj (Int×List Int×Int×Int×List (Int×List Int)) (List Int×Int×Int×List (Int×List Int)))
 |(v43,v44,v45,v46,v47)=>cond (ltB v43 v13) (afW (cond (eqB v43 (WR (v13-1))) (afW (jY (⟨v44,v45,v46⟩:bu) 5) λr62=>cond (!r62.1) (ς (ζ,r62.2.fb,r62.2.fi,r62.2.fh)) (afW (jY r62.2 4) λr63=>ς (r63.1,r63.2.fb,r63.2.fi,r63.2.fh))) (afW (jY (⟨v44,v45,v46⟩:bu) 4) λr64=>ς (r64.1,r64.2.fb,r64.2.fi,r64.2.fh))) λ((v58,v59,v60,v61):Bool×List Int×Int×Int)=>afW (cond v58 (afW (xW v47 v43 v13) λr65=>ς r65) (ς v47)) λ(v62:List (Int×List Int))=>ς (.next (WR (v43+1),v59,v60,v61,v62))) (ς (.done (v44,v45,v46,v47)))
def Ft(r1:Int×bu):(Int×List Int×Int×Int×List (Int×List Int))->Option (cj (Int×List Int×Int×Int×List (Int×List Int)) (List Int×Int×Int×List (Int×List Int)))
 |(v13,v14,v15,v16,v17)=>cond (ltB v13 (WR (2+r1.1))) (afW (iter (Fu v13) FU (0,v14,v15,v16,v17)) λ((v55,v56,v57,v58):List Int×Int×Int×List (Int×List Int))=>ς (.next (WR (v13+1),v55,v56,v57,v58))) (ς (.done (v14,v15,v16,v17)))
def Fw(r1:Int×bu)(v66:Int)(v67:List (Int×List Int)):(Int×List Int)->Option (cj (Int×List Int) (List Int))
 |(v79,v80)=>cond (ltB v79 (WR (2+r1.1))) (afW (ix v67 v66) λx85=>afW (DW x85.2 v79) λr86=>afW (cond r86 (cond (da 8 (v80++[v79]).length) (ς (v80++[v79])) ξ) (ς v80)) λ(v87:List Int)=>ς (.next (WR (v79+1),v87))) (ς (.done v80))
def Fv(r1:Int×bu):(Int×List (Int×List Int))->Option (cj (Int×List (Int×List Int)) (List (Int×List Int)))
 |(v66,v67)=>cond (ltB v66 (WR (2+r1.1))) (afW (iter (Fw r1 v66 v67) FU (0,([]:List Int))) λ(v84:List Int)=>afW (ix v67 v66) λx88=>ς (.next (WR (v66+1),(v67.set (v66).toNat (x88.1,v84))))) (ς (.done v67))
def Bx(a0:bu):Option (List (Int×List Int)×bu):=
 afW (cS a0 4) λr1=>afW (iter (Fs r1) FU (0,r1.2.fb,r1.2.fi,r1.2.fh,([]:List Int))) λ((v8,v9,v10,v11):List Int×Int×Int×List Int)=>afW (iter (Ft r1) FU (1,v8,v9,v10,v11.map λa=>(a,[]))) λ((v40,v41,v42,v43):List Int×Int×Int×List (Int×List Int))=>afW (iter (Fv r1) FU (0,v43)) λ(v78:List (Int×List Int))=>ς (v78,(⟨v40,v41,v42⟩:bu))
def DU(a0:bu):Option (be×bu):=
 afW (Bx a0) λr=>ς ((⟨r.1.map λe=>(⟨e.1,e.2⟩:fo)⟩:be),r.2)
theorem O0{a0:bu}{r:List (Int×List Int)×bu}(H:Bx a0=ς r){AQ:Exit->St->Prop}[Clo 85 AQ](hq:AQ .ret ⟨[(2,.v (.c (.p 220 0)))],[(200,.var 124 [.d η (.l (r.2.fb.map eU8)),.d η (.i .i64 r.2.fi),.d η (.i .i64 r.2.fh)]),(220,.var 26 [.wn 222 r.1.length]),(222,.cxo 222 154 3 r.1 ξ)],223⟩):
 ∃c,Tryz.f133.body=ς c/\AWC prog 85 c ⟨[(0,.v (.c (.p 200 0)))],[(200,.var 124 [.d η (.l (a0.fb.map eU8)),.d η (.i .i64 a0.fi),.d η (.i .i64 a0.fh)])],220⟩ AQ:=by
 refine⟨_,rfl,?_⟩
 refine wkz ?_
 refine aa H λr1 q1 H=>ly rfl (cw (o:=200) (oZ.h q1) rfl rfl rfl rfl rfl rfl trivial rfl rfl rfl rfl) ?_
 refine wkz ?_
 obtain⟨⟨v8,v9,v10,v11⟩,Hj,H⟩:=ob H
 refine uJ ⟨[(0,.v (.c (.p 200 0))),(2,.v (.c (.p 220 0))),(3,.v (.c (.p 221 0))),(4,tI (WR (2+r1.1)))],[(200,.var 124 [.d η (.l (v8.map eU8)),.d η (.i .i64 v9),.d η (.i .i64 v10)]),(220,.var 26 [.nil]),(221,.var 26 [.wn 222 v11.length]),(222,.rown 154 2 (v11.map encA) ζ)],223⟩ ?_ ?_
 .refine wkz ?_
  refine uI (λ(q:Int×List Int×Int×Int×List Int)=>⟨[(0,.v (.c (.p 200 0))),(2,.v (.c (.p 220 0))),(3,.v (.c (.p 221 0))),(4,tI (WR (2+r1.1))),(5,tI q.1)],[(200,.var 124 [.d η (.l (q.2.1.map eU8)),.d η (.i .i64 q.2.2.1),.d η (.i .i64 q.2.2.2.1)]),(220,.var 26 [.nil]),(221,.var 26 [.wn 222 q.2.2.2.2.length]),(222,.rown 154 2 (q.2.2.2.2.map encA) ζ)],223⟩) Hj (by refine bz (qS (o:=221) (j:=0) 154 2 ζ rfl rfl rfl rfl rfl) ?_;refine bz (vz (o:=222) (n:=([]:List Int).length) rfl rfl (by repeat (first|exact θ|refine⟨by first|rfl|simp,?_⟩)) (by repeat (first|exact θ|refine⟨by first|rfl|simp,?_⟩))) ?_;exact eY ⟨rfl,rfl,rfl,rfl,rfl,rfl,rfl,rfl,rfl,rfl,θ⟩ ⟨rfl,⟨rfl,rfl⟩,rfl,⟨rfl,rfl⟩,rfl,⟨rfl,rfl⟩,rfl,⟨rfl,rfl⟩,θ⟩) ?_
  rintro⟨v2,v3,v4,v5,v6⟩ o H
  try dsimp only
  refine wkz ?_
  refine sH rfl (λh=>?_) (λh=>?_)
  .have H:=bt h H
   refine wkz ?_
   refine zV [0,1,2,3,4,5,6,7,8] Try.follows (by kernel_rfl) (by kernel_rfl) rfl ?_
   refine wkz ?_
   refine aa H λr12 q12 H=>Qd rfl (cwx (o:=200) (oZ.h q12) rfl rfl rfl rfl rfl rfl trivial rfl rfl rfl rfl) ?_
   refine vI rfl (bdk rfl rfl rfl rfl) ?_
   refine wkz ?_
   obtain⟨h,H⟩:=rq H
   refine Lq (by kernel_rfl) rfl (by kernel_rfl) dV (vG rfl (Ux (enc:=encA) (ys:=v6) (zs:=[r12.1]) h (by first|exact List.cons_ne_nil _ _|simp) rfl (λ_=>rfl) (by first|rfl|simp) (.w rfl (by first|rfl|exact lm _|simp)) rfl rfl rfl rfl rfl rfl rfl rfl rfl rfl)) dV rfl ?_
   refine wkz ?_
   refine Qd rfl (spx 100015 rfl rfl rfl rfl rfl rfl rfl rfl) ?_
   refine wkz ?_
   cases H
   refine Ey ?_
   refine bz (qT 222 rfl rfl rfl) ?_
   exact eY ⟨rfl,rfl,rfl,rfl,rfl,rfl,rfl,rfl,rfl,rfl,θ⟩ ⟨rfl,⟨rfl,rfl⟩,rfl,⟨rfl,rfl⟩,rfl,⟨rfl,rfl⟩,rfl,⟨rfl,rfl⟩,θ⟩
  have H:=bf h H
  refine wkz ?_
  cases H
  refine Hv (λhq=>?_)
  cases hq
  refine wkz ?_
  exact eY ⟨rfl,rfl,rfl,rfl,rfl,rfl,rfl,rfl,θ⟩ ⟨rfl,⟨rfl,rfl⟩,rfl,⟨rfl,rfl⟩,rfl,⟨rfl,rfl⟩,rfl,⟨rfl,rfl⟩,θ⟩
 refine wkz ?_
 refine pB (aef (o:=222) (nt:=3) (al:=v11) rfl rfl) ?_
 refine pB (vz (o:=222) (n:=(v11.map λa=>((a,[]):Int×List Int)).length) rfl rfl (by repeat (first|exact θ|refine⟨by first|rfl|simp,?_⟩)) (by repeat (first|exact θ|refine⟨by first|rfl|simp,?_⟩))) ?_
 obtain⟨⟨v40,v41,v42,v43⟩,Hj,H⟩:=ob H
 refine uJ ⟨[(2,.v (.c (.p 220 0))),(3,.v (.c (.p 221 0))),(4,tI (WR (2+r1.1)))],[(200,.var 124 [.d η (.l (v40.map eU8)),.d η (.i .i64 v41),.d η (.i .i64 v42)]),(220,.var 26 [.nil]),(221,.var 26 [.wn 222 v43.length]),(222,.cxo 222 154 3 v43 ξ)],223⟩ ?_ ?_
 .refine wkz ?_
  refine uI (λ(q:Int×List Int×Int×Int×List (Int×List Int))=>⟨[(0,.v (.c (.p 200 0))),(2,.v (.c (.p 220 0))),(3,.v (.c (.p 221 0))),(4,tI (WR (2+r1.1))),(6,tI q.1)],[(200,.var 124 [.d η (.l (q.2.1.map eU8)),.d η (.i .i64 q.2.2.1),.d η (.i .i64 q.2.2.2.1)]),(220,.var 26 [.nil]),(221,.var 26 [.wn 222 q.2.2.2.2.length]),(222,.cxo 222 154 3 q.2.2.2.2 ξ)],223⟩) Hj (eY ⟨rfl,rfl,rfl,rfl,rfl,rfl,rfl,rfl,rfl,rfl,θ⟩ ⟨rfl,⟨rfl,rfl⟩,rfl,⟨rfl,rfl⟩,rfl,⟨rfl,rfl⟩,rfl,⟨rfl,rfl⟩,θ⟩) ?_
  rintro⟨v13,v14,v15,v16,v17⟩ o H
  try dsimp only
  refine wkz ?_
  refine sH rfl (λh=>?_) (λh=>?_)
  .have H:=bt h H
   refine wkz ?_
   obtain⟨⟨v55,v56,v57,v58⟩,Hj,H⟩:=ob H
   refine uJ ⟨[(0,.v (.c (.p 200 0))),(2,.v (.c (.p 220 0))),(3,.v (.c (.p 221 0))),(4,tI (WR (2+r1.1))),(6,tI v13)],[(200,.var 124 [.d η (.l (v55.map eU8)),.d η (.i .i64 v56),.d η (.i .i64 v57)]),(220,.var 26 [.nil]),(221,.var 26 [.wn 222 v58.length]),(222,.cxo 222 154 3 v58 ξ)],223⟩ ?_ ?_
   .refine wkz ?_
    refine uI (λ(q:Int×List Int×Int×Int×List (Int×List Int))=>⟨[(0,.v (.c (.p 200 0))),(2,.v (.c (.p 220 0))),(3,.v (.c (.p 221 0))),(4,tI (WR (2+r1.1))),(6,tI v13),(7,tI q.1)],[(200,.var 124 [.d η (.l (q.2.1.map eU8)),.d η (.i .i64 q.2.2.1),.d η (.i .i64 q.2.2.2.1)]),(220,.var 26 [.nil]),(221,.var 26 [.wn 222 q.2.2.2.2.length]),(222,.cxo 222 154 3 q.2.2.2.2 ξ)],223⟩) Hj (eY ⟨rfl,rfl,rfl,rfl,rfl,rfl,rfl,rfl,rfl,rfl,rfl,rfl,θ⟩ ⟨rfl,⟨rfl,rfl⟩,rfl,⟨rfl,rfl⟩,rfl,⟨rfl,rfl⟩,rfl,⟨rfl,rfl⟩,θ⟩) ?_
    rintro⟨v43,v44,v45,v46,v47⟩ o H
    try dsimp only
    refine wkz ?_
    refine sH rfl (λh=>?_) (λh=>?_)
    .have H:=bt h H
     refine wkz ?_
     obtain⟨⟨v58,v59,v60,v61⟩,Hj,H⟩:=ob H
     refine GE ⟨[(0,.v (.c (.p 200 0))),(2,.v (.c (.p 220 0))),(3,.v (.c (.p 221 0))),(4,tI (WR (2+r1.1))),(6,tI v13),(7,tI v43),(50,tB v58)],[(200,.var 124 [.d η (.l (v59.map eU8)),.d η (.i .i64 v60),.d η (.i .i64 v61)]),(220,.var 26 [.nil]),(221,.var 26 [.wn 222 v47.length]),(222,.cxo 222 154 3 v47 ξ)],223⟩ ?_ ?_
     .have H:=Hj
      refine wkz ?_
      refine g2 rfl rfl rfl (λh=>?_) (λh=>?_)
      .have H:=bt h H
       refine wkz ?_
       refine aa H λr62 q62 H=>nT rfl rfl (du rfl) rfl (cw (o:=200) (By.h q62) rfl rfl rfl rfl rfl rfl trivial rfl rfl rfl rfl) ?_
       refine wkz ?_
       refine g2 rfl rfl rfl (λh=>?_) (λh=>?_)
       .have H:=bt h H
        refine wkz ?_
        cases H
        exact eY ⟨rfl,rfl,rfl,rfl,rfl,rfl,rfl,rfl,rfl,rfl,rfl,rfl,rfl,rfl,θ⟩ ⟨rfl,⟨rfl,rfl⟩,rfl,⟨rfl,rfl⟩,rfl,⟨rfl,rfl⟩,rfl,⟨rfl,rfl⟩,θ⟩
       have H:=bf h H
       refine wkz ?_
       refine aa H λr63 q63 H=>nT rfl rfl (du rfl) rfl (cw (o:=200) (By.h q63) rfl rfl rfl rfl rfl rfl trivial rfl rfl rfl rfl) ?_
       refine wkz ?_
       cases H
       exact eY ⟨rfl,rfl,rfl,rfl,rfl,rfl,rfl,rfl,rfl,rfl,rfl,rfl,rfl,rfl,θ⟩ ⟨rfl,⟨rfl,rfl⟩,rfl,⟨rfl,rfl⟩,rfl,⟨rfl,rfl⟩,rfl,⟨rfl,rfl⟩,θ⟩
      have H:=bf h H
      refine wkz ?_
      refine aa H λr64 q64 H=>nT rfl rfl (du rfl) rfl (cw (o:=200) (By.h q64) rfl rfl rfl rfl rfl rfl trivial rfl rfl rfl rfl) ?_
      refine wkz ?_
      cases H
      exact eY ⟨rfl,rfl,rfl,rfl,rfl,rfl,rfl,rfl,rfl,rfl,rfl,rfl,rfl,rfl,θ⟩ ⟨rfl,⟨rfl,rfl⟩,rfl,⟨rfl,rfl⟩,rfl,⟨rfl,rfl⟩,rfl,⟨rfl,rfl⟩,θ⟩
     refine wkz ?_
     refine aa H λv62 Hj H=>xq ⟨[(0,.v (.c (.p 200 0))),(2,.v (.c (.p 220 0))),(3,.v (.c (.p 221 0))),(4,tI (WR (2+r1.1))),(6,tI v13),(7,tI v43)],[(200,.var 124 [.d η (.l (v59.map eU8)),.d η (.i .i64 v60),.d η (.i .i64 v61)]),(220,.var 26 [.nil]),(221,.var 26 [.wn 222 v62.length]),(222,.cxo 222 154 3 v62 ξ)],223⟩ ?_ ?_
     .have H:=Hj
      refine wkz ?_
      refine sH rfl (λh=>?_) (λh=>?_)
      .have H:=bt h H
       refine wkz ?_
       obtain⟨r65,q65,H⟩:=ob H
       obtain⟨cJ,hcJ,hJ⟩:=O1 (fb:=v59.map eU8) (fi:=v60) (fh:=v61) q65 rfl
       refine ly rfl (o_inl (m:=[(200,200),(202,220),(203,221),(222,222)]) (m':=[(200,200),(202,220),(203,221),(222,222)]) (nx':=223) func229 hcJ (by kernel_rfl) ntmps229 rfl hJ rfl rfl rfl rfl rfl rfl rfl rfl rfl rfl rfl) ?_
       refine wkz ?_
       cases H
       refine bz (vz (o:=222) (n:=v62.length) rfl rfl (by repeat (first|exact θ|refine⟨by first|rfl|exact(ug q65).symm|exact ug q65|simp,?_⟩)) (by repeat (first|exact θ|refine⟨by first|rfl|exact(ug q65).symm|exact ug q65|simp,?_⟩))) ?_
       exact eY ⟨rfl,rfl,rfl,rfl,rfl,rfl,rfl,rfl,rfl,rfl,rfl,rfl,θ⟩ ⟨rfl,⟨rfl,rfl⟩,rfl,⟨rfl,rfl⟩,rfl,⟨rfl,rfl⟩,rfl,⟨rfl,rfl⟩,θ⟩
      have H:=bf h H
      refine wkz ?_
      cases H
      exact eY ⟨rfl,rfl,rfl,rfl,rfl,rfl,rfl,rfl,rfl,rfl,rfl,rfl,θ⟩ ⟨rfl,⟨rfl,rfl⟩,rfl,⟨rfl,rfl⟩,rfl,⟨rfl,rfl⟩,rfl,⟨rfl,rfl⟩,θ⟩
     refine wkz ?_
     cases H
     refine Ey ?_
     exact eY ⟨rfl,rfl,rfl,rfl,rfl,rfl,rfl,rfl,rfl,rfl,rfl,rfl,θ⟩ ⟨rfl,⟨rfl,rfl⟩,rfl,⟨rfl,rfl⟩,rfl,⟨rfl,rfl⟩,rfl,⟨rfl,rfl⟩,θ⟩
    have H:=bf h H
    refine wkz ?_
    cases H
    refine Hv (λhq=>?_)
    cases hq
    refine wkz ?_
    exact eY ⟨rfl,rfl,rfl,rfl,rfl,rfl,rfl,rfl,rfl,rfl,θ⟩ ⟨rfl,⟨rfl,rfl⟩,rfl,⟨rfl,rfl⟩,rfl,⟨rfl,rfl⟩,rfl,⟨rfl,rfl⟩,θ⟩
   refine wkz ?_
   cases H
   refine Ey ?_
   exact eY ⟨rfl,rfl,rfl,rfl,rfl,rfl,rfl,rfl,rfl,rfl,θ⟩ ⟨rfl,⟨rfl,rfl⟩,rfl,⟨rfl,rfl⟩,rfl,⟨rfl,rfl⟩,rfl,⟨rfl,rfl⟩,θ⟩
  have H:=bf h H
  refine wkz ?_
  cases H
  refine Hv (λhq=>?_)
  cases hq
  refine wkz ?_
  exact eY ⟨rfl,rfl,rfl,rfl,rfl,rfl,θ⟩ ⟨rfl,⟨rfl,rfl⟩,rfl,⟨rfl,rfl⟩,rfl,⟨rfl,rfl⟩,rfl,⟨rfl,rfl⟩,θ⟩
 refine wkz ?_
 refine aa H λv78 Hj H=>uJ ⟨[(2,.v (.c (.p 220 0))),(3,.v (.c (.p 221 0)))],[(200,.var 124 [.d η (.l (v40.map eU8)),.d η (.i .i64 v41),.d η (.i .i64 v42)]),(220,.var 26 [.nil]),(221,.var 26 [.wn 222 v78.length]),(222,.cxo 222 154 3 v78 ξ)],223⟩ ?_ ?_
 .refine wkz ?_
  refine uI (λ(q:Int×List (Int×List Int))=>⟨[(2,.v (.c (.p 220 0))),(3,.v (.c (.p 221 0))),(4,tI (WR (2+r1.1))),(8,tI q.1)],[(200,.var 124 [.d η (.l (v40.map eU8)),.d η (.i .i64 v41),.d η (.i .i64 v42)]),(220,.var 26 [.nil]),(221,.var 26 [.wn 222 q.2.length]),(222,.cxo 222 154 3 q.2 ξ)],223⟩) Hj (eY ⟨rfl,rfl,rfl,rfl,rfl,rfl,rfl,rfl,θ⟩ ⟨rfl,⟨rfl,rfl⟩,rfl,⟨rfl,rfl⟩,rfl,⟨rfl,rfl⟩,rfl,⟨rfl,rfl⟩,θ⟩) ?_
  rintro⟨v66,v67⟩ o H
  try dsimp only
  refine wkz ?_
  refine sH rfl (λh=>?_) (λh=>?_)
  .have H:=bt h H
   refine wkz ?_
   refine aa H λv84 Hj H=>uJ ⟨[(2,.v (.c (.p 220 0))),(3,.v (.c (.p 221 0))),(4,tI (WR (2+r1.1))),(8,tI v66),(9,.v (.c (.w 223 v84.length)))],[(200,.var 124 [.d η (.l (v40.map eU8)),.d η (.i .i64 v41),.d η (.i .i64 v42)]),(220,.var 26 [.nil]),(221,.var 26 [.wn 222 v67.length]),(222,.cxo 222 154 3 v67 ξ),(223,.row 3 1 (v84.map eI) ζ ζ)],224⟩ ?_ ?_
   .refine wkz ?_
    refine uI (λ(q:Int×List Int)=>⟨[(2,.v (.c (.p 220 0))),(3,.v (.c (.p 221 0))),(4,tI (WR (2+r1.1))),(8,tI v66),(9,.v (.c (.w 223 q.2.length))),(10,tI q.1)],[(200,.var 124 [.d η (.l (v40.map eU8)),.d η (.i .i64 v41),.d η (.i .i64 v42)]),(220,.var 26 [.nil]),(221,.var 26 [.wn 222 v67.length]),(222,.cxo 222 154 3 v67 ξ),(223,.row 3 1 (q.2.map eI) ζ ζ)],224⟩) Hj (eY ⟨rfl,rfl,rfl,rfl,rfl,rfl,rfl,rfl,wn rfl (by first|rfl|simp),rfl,rfl,rfl,θ⟩ ⟨rfl,⟨rfl,rfl⟩,rfl,⟨rfl,rfl⟩,rfl,⟨rfl,rfl⟩,rfl,⟨rfl,rfl⟩,rfl,⟨rfl,rfl⟩,θ⟩) ?_
    rintro⟨v79,v80⟩ o H
    try dsimp only
    refine wkz ?_
    refine sH rfl (λh=>?_) (λh=>?_)
    .have H:=bt h H
     refine wkz ?_
     refine aa H λx85 hx85 H=>sI rfl (FV hx85 rfl rfl rfl rfl) ?_
     refine wkz ?_
     refine sI rfl (olx (ixE hx85).2 rfl rfl rfl) ?_
     refine wkz ?_
     refine aa H λr86 q86 H=>sI rfl (ca rfl rfl rfl (Wh.h q86) trivial rfl rfl rfl rfl) ?_
     refine wkz ?_
     refine aa H λv87 Hj H=>xq ⟨[(2,.v (.c (.p 220 0))),(3,.v (.c (.p 221 0))),(4,tI (WR (2+r1.1))),(8,tI v66),(9,.v (.c (.w 223 v87.length))),(10,tI v79)],[(200,.var 124 [.d η (.l (v40.map eU8)),.d η (.i .i64 v41),.d η (.i .i64 v42)]),(220,.var 26 [.nil]),(221,.var 26 [.wn 222 v67.length]),(222,.cxo 222 154 3 v67 ξ),(223,.row 3 1 (v87.map eI) ζ ζ)],224⟩ ?_ ?_
     .have H:=Hj
      refine wkz ?_
      refine sH rfl (λh=>?_) (λh=>?_)
      .have H:=bt h H
       refine wkz ?_
       obtain⟨h,H⟩:=rq H
       refine ly rfl (apT (enc:=eI) (ys:=v80) (zs:=[v79]) h) ?_
       refine wkz ?_
       cases H
       exact eY ⟨rfl,rfl,rfl,rfl,rfl,rfl,rfl,rfl,wn rfl (by first|rfl|simp),rfl,rfl,rfl,θ⟩ ⟨rfl,⟨rfl,rfl⟩,rfl,⟨rfl,rfl⟩,rfl,⟨rfl,rfl⟩,rfl,⟨rfl,rfl⟩,rfl,⟨rfl,rfl⟩,θ⟩
      have H:=bf h H
      refine wkz ?_
      cases H
      exact eY ⟨rfl,rfl,rfl,rfl,rfl,rfl,rfl,rfl,wn rfl (by first|rfl|simp),rfl,rfl,rfl,θ⟩ ⟨rfl,⟨rfl,rfl⟩,rfl,⟨rfl,rfl⟩,rfl,⟨rfl,rfl⟩,rfl,⟨rfl,rfl⟩,rfl,⟨rfl,rfl⟩,θ⟩
     refine wkz ?_
     cases H
     refine Ey ?_
     exact eY ⟨rfl,rfl,rfl,rfl,rfl,rfl,rfl,rfl,wn rfl (by first|rfl|simp),rfl,rfl,rfl,θ⟩ ⟨rfl,⟨rfl,rfl⟩,rfl,⟨rfl,rfl⟩,rfl,⟨rfl,rfl⟩,rfl,⟨rfl,rfl⟩,rfl,⟨rfl,rfl⟩,θ⟩
    have H:=bf h H
    refine wkz ?_
    cases H
    refine Hv (λhq=>?_)
    cases hq
    refine wkz ?_
    exact eY ⟨rfl,rfl,rfl,rfl,rfl,rfl,rfl,rfl,wn rfl (by first|rfl|simp),rfl,θ⟩ ⟨rfl,⟨rfl,rfl⟩,rfl,⟨rfl,rfl⟩,rfl,⟨rfl,rfl⟩,rfl,⟨rfl,rfl⟩,rfl,⟨rfl,rfl⟩,θ⟩
   refine wkz ?_
   refine aa H λx88 hx88 H=>sI rfl (FV hx88 rfl rfl rfl rfl) ?_
   refine wkz ?_
   refine ly rfl (Oo (o:=222) (s:=223) (ys:=v84) rfl rfl rfl rfl rfl (ixE hx88).2 (.inl rfl) rfl rfl rfl rfl rfl rfl rfl) ?_
   refine wkz ?_
   cases H
   refine Ey ?_
   refine bz (vz (o:=222) (n:=(v67.set (v66).toNat (x88.1,v84)).length) rfl rfl (by repeat (first|exact θ|refine⟨by first|rfl|simp,?_⟩)) (by repeat (first|exact θ|refine⟨by first|rfl|simp,?_⟩))) ?_
   exact eY ⟨rfl,rfl,rfl,rfl,rfl,rfl,rfl,rfl,θ⟩ ⟨rfl,⟨rfl,rfl⟩,rfl,⟨rfl,rfl⟩,rfl,⟨rfl,rfl⟩,rfl,⟨rfl,rfl⟩,θ⟩
  have H:=bf h H
  refine wkz ?_
  cases H
  refine Hv (λhq=>?_)
  cases hq
  refine wkz ?_
  exact eY ⟨rfl,rfl,rfl,rfl,θ⟩ ⟨rfl,⟨rfl,rfl⟩,rfl,⟨rfl,rfl⟩,rfl,⟨rfl,rfl⟩,rfl,⟨rfl,rfl⟩,θ⟩
 refine wkz ?_
 cases H
 refine clo_w (N:=85) ?_ hq
 exact eY ⟨rfl,rfl,θ⟩ ⟨rfl,⟨rfl,rfl⟩,rfl,⟨rfl,rfl⟩,rfl,⟨rfl,rfl⟩,θ⟩
theorem UD(v:List (Int×List Int)):v.map Yc=(v.map λe=>(⟨e.1,e.2⟩:fo)).map gp:=by rw[List.map_map];rfl
instance Iv{a0:bu}{r:be×bu}:FCV prog (DU a0=ς r) 133 [(200,.var 124 [.d η (.l (a0.fb.map eU8)),.d η (.i .i64 a0.fi),.d η (.i .i64 a0.fh)])] [.v (.c (.p 200 0))] [(200,.var 124 [.d η (.l (r.2.fb.map eU8)),.d η (.i .i64 r.2.fi),.d η (.i .i64 r.2.fh)])] (.v (.agg [.wn 210 r.1.bp.length])) [(210,.rown 154 2 (r.1.bp.map gp) ζ)]:=⟨λH=>by
 obtain⟨⟨v,cu⟩,hX,H⟩:=ob H
 cases H
 obtain⟨c,hc,h⟩:=O0 hX (AQ:=qV 85 prog [ResultVar.cell 2 26] [(200,.var 124 [.d η (.l (cu.fb.map eU8)),.d η (.i .i64 cu.fi),.d η (.i .i64 cu.fh)])] (.v (.agg [.wn 210 (v.map λe=>(⟨e.1,e.2⟩:fo)).length])) [(210,.rown 154 2 ((v.map λe=>(⟨e.1,e.2⟩:fo)).map gp) ζ)]) (by
  refine dD (RS (o:=222) rfl rfl rfl rfl rfl) ?_
  rw[UD]
  refine dD (vz (o:=222) (n:=(v.map λe=>(⟨e.1,e.2⟩:fo)).length) rfl rfl (by repeat (first|exact θ|refine⟨by first|rfl|simp,?_⟩)) (by repeat (first|exact θ|refine⟨by first|rfl|simp,?_⟩))) ?_
  refine dD (IQ (p:=222) (q:=210) rfl rfl rfl rfl) ?_
  exact mC (.cons (.cell rfl rfl rfl) .nil) rfl (by first|rfl|simp) ⟨rfl,θ⟩ ⟨rfl,θ⟩)
 exact Qk func133 hc (by kernel_rfl) ntmps133 rfl rfl rfl (pB (BK (nx':=220) rfl) h)⟩
def vw:(Int×List a8×bu)->Option (cj (Int×List a8×bu) (List a8×bu))
 |(v2,v6,v7)=>cond (ltB 0 v2) (afW (CQ v7) λr15=>afW (cS r15.2 20) λr16=>cond (da 32 (v6++[(⟨(⟨1,v2⟩:dH),r15.1,r16.1⟩:a8)]).length) (ς (.next (WR (v2-1),(v6++[(⟨(⟨1,v2⟩:dH),r15.1,r16.1⟩:a8)]),r16.2))) ξ) (ς (.done (v6,v7)))
def oQ(a0:bu):Option (List a8×bu):=
 afW (cS a0 3) λr1=>afW (iter (vw) FU (WR (1+r1.1),([]:List a8),r1.2)) λ((v13,v14):List a8×bu)=>ς (v13,v14)
instance wP{a0:bu}{r:List a8×bu}:FCW prog (oQ a0=ς r) 134 (.var 124 (kM [.f] (cB a0))) [tP 200] (.var 124 (kM [.f] (cB r.2))) [.c (.own 82 4 (r.1.map eB) r.1.length)]:=gW func134 ntmps134 (hL 0 (λ(v:Int×List a8×bu) sl ob nx=>⟨(3,.v (.c (.w 210 v.2.1.length)))::(4,tI v.1)::xS [210] sl,[(200,.var 124 (kM [.f] (cB v.2.2))),(210,w82 v.2.1)]++ob,nx⟩)) (hB 0 (λ(v:List a8×bu) sl ob nx=>⟨(3,.v (.c (.w 210 v.1.length)))::(4,.any)::xS [210] sl,[(200,.var 124 (kM [.f] (cB v.2))),(210,w82 v.1)]++ob,nx⟩))
def oC(a0:ag)(a1:List Int):Option (ag×Bool):=
 afW (jZ a0) λr1=>afW (cond (leB 24 (a0.aC.length:Int)) (ς ζ) (ς (ltB 60 (a1.length:Int)))) λ(v2:Bool)=>cond v2 (ς (r1,η)) (afW (Iy a1) λr3=>cond (da 24 (r1.aC++[r3]).length) (ς ({r1 with aC:=(r1.aC++[r3])},ζ)) ξ)
instance FO{a0:ag}{a1:List Int}{r:ag×Bool}:FC prog (oC a0 a1=ς r) 135 [.agg (cr a0),aL (a1.map eU8)] [.agg (qM [.o,.o,.o] (dO r.1)),.c (.d (.b r.2))]:=gG func135 ntmps135 (hb 13 17) (hx 22) (hz 4)
def vm(a0:aA):Option bi:=
 afW (lO a0) λr1=>ς (⟨r1,([]:List aG)⟩:bi)
instance sl29None_c{a0:aA}{r:bi}:FC prog (vm a0=ς r) 232 [.agg (dR a0)] [.agg (qM [.o,.o,.o] (dr r))]:=gG func232 ntmps232
end Go.AM
