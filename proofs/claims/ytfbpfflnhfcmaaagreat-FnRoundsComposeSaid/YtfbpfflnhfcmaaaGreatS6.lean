/- A part. -/
import Derived.Test.YtfbpfflnhfcmaaaGreatS0
import Derived.Test.YtfbpfflnhfcmaaaGreatS3
import Derived.Test.YtfbpfflnhfcmaaaGreatS4
set_option linter.unusedVariables false
open Option renaming some->ς,none->ξ
open Bool renaming true->ζ,false->η
open True renaming intro->θ
open Option renaming bind->acE
namespace Go.AM
open Go.Proofs
open Tryz
attribute [local irreducible] AWN NS AWO AWR AWC DR DZ du gr iter
set_option maxRecDepth 100000
set_option maxHeartbeats 40000000
def zr(r1:Int×av):(Int×List Int×Int×Int×List Int)->Option (ci (Int×List Int×Int×Int×List Int) (List Int×Int×Int×List Int))
 |(v2,v3,v4,v5,v6)=>cond (ltB v2 (WR (2+r1.1))) (acE (bC (⟨v3,v4,v5⟩:av) 2) λr12=>cond (cW 32 (v6++[r12.1]).length) (ς (.next (WR (v2+1),r12.2.fb,r12.2.fi,r12.2.fh,(v6++[r12.1])))) ξ) (ς (.done (v3,v4,v5,v6)))
def zu(v13:Int):(Int×List Int×Int×Int×List (Int×List Int))->Option (ci (Int×List Int×Int×Int×List (Int×List Int)) (List Int×Int×Int×List (Int×List Int)))
 |(v43,v44,v45,v46,v47)=>cond (ltB v43 v13) (acE (cond (eqB v43 (WR (v13-1))) (acE (gq (⟨v44,v45,v46⟩:av) 5) λr62=>cond (!r62.1) (ς (ζ,r62.2.fb,r62.2.fi,r62.2.fh)) (acE (gq r62.2 4) λr63=>ς (r63.1,r63.2.fb,r63.2.fi,r63.2.fh))) (acE (gq (⟨v44,v45,v46⟩:av) 4) λr64=>ς (r64.1,r64.2.fb,r64.2.fi,r64.2.fh))) λ((v58,v59,v60,v61):Bool×List Int×Int×Int)=>acE (cond v58 (acE (pN v47 v43 v13) λr65=>ς r65) (ς v47)) λ(v62:List (Int×List Int))=>ς (.next (WR (v43+1),v59,v60,v61,v62))) (ς (.done (v44,v45,v46,v47)))
def zt(r1:Int×av):(Int×List Int×Int×Int×List (Int×List Int))->Option (ci (Int×List Int×Int×Int×List (Int×List Int)) (List Int×Int×Int×List (Int×List Int)))
 |(v13,v14,v15,v16,v17)=>cond (ltB v13 (WR (2+r1.1))) (acE (iter (zu v13) FU (0,v14,v15,v16,v17)) λ((v55,v56,v57,v58):List Int×Int×Int×List (Int×List Int))=>ς (.next (WR (v13+1),v55,v56,v57,v58))) (ς (.done (v14,v15,v16,v17)))
def zw(r1:Int×av)(v66:Int)(v67:List (Int×List Int)):(Int×List Int)->Option (ci (Int×List Int) (List Int))
 |(v79,v80)=>cond (ltB v79 (WR (2+r1.1))) (acE (ix v67 v66) λx85=>acE (Ap x85.2 v79) λr86=>acE (cond r86 (cond (cW 8 (v80++[v79]).length) (ς (v80++[v79])) ξ) (ς v80)) λ(v87:List Int)=>ς (.next (WR (v79+1),v87))) (ς (.done v80))
def zv(r1:Int×av):(Int×List (Int×List Int))->Option (ci (Int×List (Int×List Int)) (List (Int×List Int)))
 |(v66,v67)=>cond (ltB v66 (WR (2+r1.1))) (acE (iter (zw r1 v66 v67) FU (0,([]:List Int))) λ(v84:List Int)=>acE (ix v67 v66) λx88=>ς (.next (WR (v66+1),(v67.set (v66).toNat (x88.1,v84))))) (ς (.done v67))
def oB(a0:av):Option (List (Int×List Int)×av):=
 acE (bC a0 4) λr1=>acE (iter (zr r1) FU (0,r1.2.fb,r1.2.fi,r1.2.fh,([]:List Int))) λ((v8,v9,v10,v11):List Int×Int×Int×List Int)=>acE (iter (zt r1) FU (1,v8,v9,v10,v11.map λa=>(a,[]))) λ((v40,v41,v42,v43):List Int×Int×Int×List (Int×List Int))=>acE (iter (zv r1) FU (0,v43)) λ(v78:List (Int×List Int))=>ς (v78,(⟨v40,v41,v42⟩:av))
def CJ(a0:av):Option (aZ×av):=
 acE (oB a0) λr=>ς ((⟨r.1.map λe=>(⟨e.1,e.2⟩:dY)⟩:aZ),r.2)
theorem ML{a0:av}{r:List (Int×List Int)×av}(H:oB a0=ς r){AQ:Exit->St->Prop}[Clo 85 AQ](hq:AQ .ret ⟨[(2,.v (.c (.p 220 0)))],[(200,.var 124 [.d η (.l (r.2.fb.map eU8)),.d η (.i .i64 r.2.fi),.d η (.i .i64 r.2.fh)]),(220,.var 26 [.wn 222 r.1.length]),(222,.cxo 222 154 3 r.1 ξ)],223⟩):
 ∃c,Tryz.f133.body=ς c/\AWC prog 85 c ⟨[(0,.v (.c (.p 200 0)))],[(200,.var 124 [.d η (.l (a0.fb.map eU8)),.d η (.i .i64 a0.fi),.d η (.i .i64 a0.fh)])],220⟩ AQ:=by
 refine⟨_,rfl,?_⟩
 refine wkz ?_
 refine aa H λr1 q1 H=>fR rfl (cw (o:=200) (cr.h q1) rfl rfl rfl rfl rfl rfl trivial rfl rfl rfl rfl) ?_
 refine wkz ?_
 obtain⟨⟨v8,v9,v10,v11⟩,Hj,H⟩:=ob H
 refine jT ⟨[(0,.v (.c (.p 200 0))),(2,.v (.c (.p 220 0))),(3,.v (.c (.p 221 0))),(4,tI (WR (2+r1.1)))],[(200,.var 124 [.d η (.l (v8.map eU8)),.d η (.i .i64 v9),.d η (.i .i64 v10)]),(220,.var 26 [.nil]),(221,.var 26 [.wn 222 v11.length]),(222,.rown 154 2 (v11.map RJ) ζ)],223⟩ ?_ ?_
 .refine wkz ?_
  refine kU (λ(q:Int×List Int×Int×Int×List Int)=>⟨[(0,.v (.c (.p 200 0))),(2,.v (.c (.p 220 0))),(3,.v (.c (.p 221 0))),(4,tI (WR (2+r1.1))),(5,tI q.1)],[(200,.var 124 [.d η (.l (q.2.1.map eU8)),.d η (.i .i64 q.2.2.1),.d η (.i .i64 q.2.2.2.1)]),(220,.var 26 [.nil]),(221,.var 26 [.wn 222 q.2.2.2.2.length]),(222,.rown 154 2 (q.2.2.2.2.map RJ) ζ)],223⟩) Hj (by refine aP (eo (o:=221) (j:=0) 154 2 ζ rfl rfl rfl rfl rfl) ?_;refine aP (iw (o:=222) (n:=([]:List Int).length) rfl rfl (by repeat (first|exact θ|refine⟨by first|rfl|simp,?_⟩)) (by repeat (first|exact θ|refine⟨by first|rfl|simp,?_⟩))) ?_;exact cQ ⟨rfl,rfl,rfl,rfl,rfl,rfl,rfl,rfl,rfl,rfl,θ⟩ ⟨rfl,⟨rfl,rfl⟩,rfl,⟨rfl,rfl⟩,rfl,⟨rfl,rfl⟩,rfl,⟨rfl,rfl⟩,θ⟩) ?_
  rintro⟨v2,v3,v4,v5,v6⟩ o H
  try dsimp only
  refine wkz ?_
  refine f8 rfl (λh=>?_) (λh=>?_)
  .have H:=bt h H
   refine wkz ?_
   refine kx [0,1,2,3,4,5,6,7,8] Try.follows (by kernel_rfl) (by kernel_rfl) rfl ?_
   refine wkz ?_
   refine aa H λr12 q12 H=>rE rfl (cwx (o:=200) (cr.h q12) rfl rfl rfl rfl rfl rfl trivial rfl rfl rfl rfl) ?_
   refine ij rfl (bdk rfl rfl rfl rfl) ?_
   refine wkz ?_
   obtain⟨h,H⟩:=rq H
   refine w8 (by kernel_rfl) rfl (by kernel_rfl) cA (kz rfl (Jp (enc:=RJ) (ys:=v6) (zs:=[r12.1]) h (by first|exact List.cons_ne_nil _ _|simp) rfl (λ_=>rfl) (by first|rfl|simp) (.w rfl (by first|rfl|exact lm _|simp)) rfl rfl rfl rfl rfl rfl rfl rfl rfl rfl)) cA rfl ?_
   refine wkz ?_
   refine rE rfl (spx 100015 rfl rfl rfl rfl rfl rfl rfl rfl) ?_
   refine wkz ?_
   cases H
   refine uj ?_
   refine aP (fZ 222 rfl rfl rfl) ?_
   exact cQ ⟨rfl,rfl,rfl,rfl,rfl,rfl,rfl,rfl,rfl,rfl,θ⟩ ⟨rfl,⟨rfl,rfl⟩,rfl,⟨rfl,rfl⟩,rfl,⟨rfl,rfl⟩,rfl,⟨rfl,rfl⟩,θ⟩
  have H:=bf h H
  refine wkz ?_
  cases H
  refine yo (λhq=>?_)
  cases hq
  refine wkz ?_
  exact cQ ⟨rfl,rfl,rfl,rfl,rfl,rfl,rfl,rfl,θ⟩ ⟨rfl,⟨rfl,rfl⟩,rfl,⟨rfl,rfl⟩,rfl,⟨rfl,rfl⟩,rfl,⟨rfl,rfl⟩,θ⟩
 refine wkz ?_
 refine f9 (Ri (o:=222) (nt:=3) (al:=v11) rfl rfl) ?_
 refine f9 (iw (o:=222) (n:=(v11.map λa=>((a,[]):Int×List Int)).length) rfl rfl (by repeat (first|exact θ|refine⟨by first|rfl|simp,?_⟩)) (by repeat (first|exact θ|refine⟨by first|rfl|simp,?_⟩))) ?_
 obtain⟨⟨v40,v41,v42,v43⟩,Hj,H⟩:=ob H
 refine jT ⟨[(2,.v (.c (.p 220 0))),(3,.v (.c (.p 221 0))),(4,tI (WR (2+r1.1)))],[(200,.var 124 [.d η (.l (v40.map eU8)),.d η (.i .i64 v41),.d η (.i .i64 v42)]),(220,.var 26 [.nil]),(221,.var 26 [.wn 222 v43.length]),(222,.cxo 222 154 3 v43 ξ)],223⟩ ?_ ?_
 .refine wkz ?_
  refine kU (λ(q:Int×List Int×Int×Int×List (Int×List Int))=>⟨[(0,.v (.c (.p 200 0))),(2,.v (.c (.p 220 0))),(3,.v (.c (.p 221 0))),(4,tI (WR (2+r1.1))),(6,tI q.1)],[(200,.var 124 [.d η (.l (q.2.1.map eU8)),.d η (.i .i64 q.2.2.1),.d η (.i .i64 q.2.2.2.1)]),(220,.var 26 [.nil]),(221,.var 26 [.wn 222 q.2.2.2.2.length]),(222,.cxo 222 154 3 q.2.2.2.2 ξ)],223⟩) Hj (cQ ⟨rfl,rfl,rfl,rfl,rfl,rfl,rfl,rfl,rfl,rfl,θ⟩ ⟨rfl,⟨rfl,rfl⟩,rfl,⟨rfl,rfl⟩,rfl,⟨rfl,rfl⟩,rfl,⟨rfl,rfl⟩,θ⟩) ?_
  rintro⟨v13,v14,v15,v16,v17⟩ o H
  try dsimp only
  refine wkz ?_
  refine f8 rfl (λh=>?_) (λh=>?_)
  .have H:=bt h H
   refine wkz ?_
   obtain⟨⟨v55,v56,v57,v58⟩,Hj,H⟩:=ob H
   refine jT ⟨[(0,.v (.c (.p 200 0))),(2,.v (.c (.p 220 0))),(3,.v (.c (.p 221 0))),(4,tI (WR (2+r1.1))),(6,tI v13)],[(200,.var 124 [.d η (.l (v55.map eU8)),.d η (.i .i64 v56),.d η (.i .i64 v57)]),(220,.var 26 [.nil]),(221,.var 26 [.wn 222 v58.length]),(222,.cxo 222 154 3 v58 ξ)],223⟩ ?_ ?_
   .refine wkz ?_
    refine kU (λ(q:Int×List Int×Int×Int×List (Int×List Int))=>⟨[(0,.v (.c (.p 200 0))),(2,.v (.c (.p 220 0))),(3,.v (.c (.p 221 0))),(4,tI (WR (2+r1.1))),(6,tI v13),(7,tI q.1)],[(200,.var 124 [.d η (.l (q.2.1.map eU8)),.d η (.i .i64 q.2.2.1),.d η (.i .i64 q.2.2.2.1)]),(220,.var 26 [.nil]),(221,.var 26 [.wn 222 q.2.2.2.2.length]),(222,.cxo 222 154 3 q.2.2.2.2 ξ)],223⟩) Hj (cQ ⟨rfl,rfl,rfl,rfl,rfl,rfl,rfl,rfl,rfl,rfl,rfl,rfl,θ⟩ ⟨rfl,⟨rfl,rfl⟩,rfl,⟨rfl,rfl⟩,rfl,⟨rfl,rfl⟩,rfl,⟨rfl,rfl⟩,θ⟩) ?_
    rintro⟨v43,v44,v45,v46,v47⟩ o H
    try dsimp only
    refine wkz ?_
    refine f8 rfl (λh=>?_) (λh=>?_)
    .have H:=bt h H
     refine wkz ?_
     obtain⟨⟨v58,v59,v60,v61⟩,Hj,H⟩:=ob H
     refine BN ⟨[(0,.v (.c (.p 200 0))),(2,.v (.c (.p 220 0))),(3,.v (.c (.p 221 0))),(4,tI (WR (2+r1.1))),(6,tI v13),(7,tI v43),(50,tB v58)],[(200,.var 124 [.d η (.l (v59.map eU8)),.d η (.i .i64 v60),.d η (.i .i64 v61)]),(220,.var 26 [.nil]),(221,.var 26 [.wn 222 v47.length]),(222,.cxo 222 154 3 v47 ξ)],223⟩ ?_ ?_
     .have H:=Hj
      refine wkz ?_
      refine g2 rfl rfl rfl (λh=>?_) (λh=>?_)
      .have H:=bt h H
       refine wkz ?_
       refine aa H λr62 q62 H=>gF rfl rfl (dm rfl) rfl (cw (o:=200) (ko.h q62) rfl rfl rfl rfl rfl rfl trivial rfl rfl rfl rfl) ?_
       refine wkz ?_
       refine g2 rfl rfl rfl (λh=>?_) (λh=>?_)
       .have H:=bt h H
        refine wkz ?_
        cases H
        exact cQ ⟨rfl,rfl,rfl,rfl,rfl,rfl,rfl,rfl,rfl,rfl,rfl,rfl,rfl,rfl,θ⟩ ⟨rfl,⟨rfl,rfl⟩,rfl,⟨rfl,rfl⟩,rfl,⟨rfl,rfl⟩,rfl,⟨rfl,rfl⟩,θ⟩
       have H:=bf h H
       refine wkz ?_
       refine aa H λr63 q63 H=>gF rfl rfl (dm rfl) rfl (cw (o:=200) (ko.h q63) rfl rfl rfl rfl rfl rfl trivial rfl rfl rfl rfl) ?_
       refine wkz ?_
       cases H
       exact cQ ⟨rfl,rfl,rfl,rfl,rfl,rfl,rfl,rfl,rfl,rfl,rfl,rfl,rfl,rfl,θ⟩ ⟨rfl,⟨rfl,rfl⟩,rfl,⟨rfl,rfl⟩,rfl,⟨rfl,rfl⟩,rfl,⟨rfl,rfl⟩,θ⟩
      have H:=bf h H
      refine wkz ?_
      refine aa H λr64 q64 H=>gF rfl rfl (dm rfl) rfl (cw (o:=200) (ko.h q64) rfl rfl rfl rfl rfl rfl trivial rfl rfl rfl rfl) ?_
      refine wkz ?_
      cases H
      exact cQ ⟨rfl,rfl,rfl,rfl,rfl,rfl,rfl,rfl,rfl,rfl,rfl,rfl,rfl,rfl,θ⟩ ⟨rfl,⟨rfl,rfl⟩,rfl,⟨rfl,rfl⟩,rfl,⟨rfl,rfl⟩,rfl,⟨rfl,rfl⟩,θ⟩
     refine wkz ?_
     refine aa H λv62 Hj H=>lZ ⟨[(0,.v (.c (.p 200 0))),(2,.v (.c (.p 220 0))),(3,.v (.c (.p 221 0))),(4,tI (WR (2+r1.1))),(6,tI v13),(7,tI v43)],[(200,.var 124 [.d η (.l (v59.map eU8)),.d η (.i .i64 v60),.d η (.i .i64 v61)]),(220,.var 26 [.nil]),(221,.var 26 [.wn 222 v62.length]),(222,.cxo 222 154 3 v62 ξ)],223⟩ ?_ ?_
     .have H:=Hj
      refine wkz ?_
      refine f8 rfl (λh=>?_) (λh=>?_)
      .have H:=bt h H
       refine wkz ?_
       obtain⟨r65,q65,H⟩:=ob H
       obtain⟨cJ,hcJ,hJ⟩:=MN (fb:=v59.map eU8) (fi:=v60) (fh:=v61) q65 rfl
       refine fR rfl (Wr (m:=[(200,200),(202,220),(203,221),(222,222)]) (m':=[(200,200),(202,220),(203,221),(222,222)]) (nx':=223) func229 hcJ (by kernel_rfl) ntmps229 rfl hJ rfl rfl rfl rfl rfl rfl rfl rfl rfl rfl rfl) ?_
       refine wkz ?_
       cases H
       refine aP (iw (o:=222) (n:=v62.length) rfl rfl (by repeat (first|exact θ|refine⟨by first|rfl|exact(jt q65).symm|exact jt q65|simp,?_⟩)) (by repeat (first|exact θ|refine⟨by first|rfl|exact(jt q65).symm|exact jt q65|simp,?_⟩))) ?_
       exact cQ ⟨rfl,rfl,rfl,rfl,rfl,rfl,rfl,rfl,rfl,rfl,rfl,rfl,θ⟩ ⟨rfl,⟨rfl,rfl⟩,rfl,⟨rfl,rfl⟩,rfl,⟨rfl,rfl⟩,rfl,⟨rfl,rfl⟩,θ⟩
      have H:=bf h H
      refine wkz ?_
      cases H
      exact cQ ⟨rfl,rfl,rfl,rfl,rfl,rfl,rfl,rfl,rfl,rfl,rfl,rfl,θ⟩ ⟨rfl,⟨rfl,rfl⟩,rfl,⟨rfl,rfl⟩,rfl,⟨rfl,rfl⟩,rfl,⟨rfl,rfl⟩,θ⟩
     refine wkz ?_
     cases H
     refine uj ?_
     exact cQ ⟨rfl,rfl,rfl,rfl,rfl,rfl,rfl,rfl,rfl,rfl,rfl,rfl,θ⟩ ⟨rfl,⟨rfl,rfl⟩,rfl,⟨rfl,rfl⟩,rfl,⟨rfl,rfl⟩,rfl,⟨rfl,rfl⟩,θ⟩
    have H:=bf h H
    refine wkz ?_
    cases H
    refine yo (λhq=>?_)
    cases hq
    refine wkz ?_
    exact cQ ⟨rfl,rfl,rfl,rfl,rfl,rfl,rfl,rfl,rfl,rfl,θ⟩ ⟨rfl,⟨rfl,rfl⟩,rfl,⟨rfl,rfl⟩,rfl,⟨rfl,rfl⟩,rfl,⟨rfl,rfl⟩,θ⟩
   refine wkz ?_
   cases H
   refine uj ?_
   exact cQ ⟨rfl,rfl,rfl,rfl,rfl,rfl,rfl,rfl,rfl,rfl,θ⟩ ⟨rfl,⟨rfl,rfl⟩,rfl,⟨rfl,rfl⟩,rfl,⟨rfl,rfl⟩,rfl,⟨rfl,rfl⟩,θ⟩
  have H:=bf h H
  refine wkz ?_
  cases H
  refine yo (λhq=>?_)
  cases hq
  refine wkz ?_
  exact cQ ⟨rfl,rfl,rfl,rfl,rfl,rfl,θ⟩ ⟨rfl,⟨rfl,rfl⟩,rfl,⟨rfl,rfl⟩,rfl,⟨rfl,rfl⟩,rfl,⟨rfl,rfl⟩,θ⟩
 refine wkz ?_
 refine aa H λv78 Hj H=>jT ⟨[(2,.v (.c (.p 220 0))),(3,.v (.c (.p 221 0)))],[(200,.var 124 [.d η (.l (v40.map eU8)),.d η (.i .i64 v41),.d η (.i .i64 v42)]),(220,.var 26 [.nil]),(221,.var 26 [.wn 222 v78.length]),(222,.cxo 222 154 3 v78 ξ)],223⟩ ?_ ?_
 .refine wkz ?_
  refine kU (λ(q:Int×List (Int×List Int))=>⟨[(2,.v (.c (.p 220 0))),(3,.v (.c (.p 221 0))),(4,tI (WR (2+r1.1))),(8,tI q.1)],[(200,.var 124 [.d η (.l (v40.map eU8)),.d η (.i .i64 v41),.d η (.i .i64 v42)]),(220,.var 26 [.nil]),(221,.var 26 [.wn 222 q.2.length]),(222,.cxo 222 154 3 q.2 ξ)],223⟩) Hj (cQ ⟨rfl,rfl,rfl,rfl,rfl,rfl,rfl,rfl,θ⟩ ⟨rfl,⟨rfl,rfl⟩,rfl,⟨rfl,rfl⟩,rfl,⟨rfl,rfl⟩,rfl,⟨rfl,rfl⟩,θ⟩) ?_
  rintro⟨v66,v67⟩ o H
  try dsimp only
  refine wkz ?_
  refine f8 rfl (λh=>?_) (λh=>?_)
  .have H:=bt h H
   refine wkz ?_
   refine aa H λv84 Hj H=>jT ⟨[(2,.v (.c (.p 220 0))),(3,.v (.c (.p 221 0))),(4,tI (WR (2+r1.1))),(8,tI v66),(9,.v (.c (.w 223 v84.length)))],[(200,.var 124 [.d η (.l (v40.map eU8)),.d η (.i .i64 v41),.d η (.i .i64 v42)]),(220,.var 26 [.nil]),(221,.var 26 [.wn 222 v67.length]),(222,.cxo 222 154 3 v67 ξ),(223,.row 3 1 (v84.map eI) ζ ζ)],224⟩ ?_ ?_
   .refine wkz ?_
    refine kU (λ(q:Int×List Int)=>⟨[(2,.v (.c (.p 220 0))),(3,.v (.c (.p 221 0))),(4,tI (WR (2+r1.1))),(8,tI v66),(9,.v (.c (.w 223 q.2.length))),(10,tI q.1)],[(200,.var 124 [.d η (.l (v40.map eU8)),.d η (.i .i64 v41),.d η (.i .i64 v42)]),(220,.var 26 [.nil]),(221,.var 26 [.wn 222 v67.length]),(222,.cxo 222 154 3 v67 ξ),(223,.row 3 1 (q.2.map eI) ζ ζ)],224⟩) Hj (cQ ⟨rfl,rfl,rfl,rfl,rfl,rfl,rfl,rfl,wn rfl (by first|rfl|simp),rfl,rfl,rfl,θ⟩ ⟨rfl,⟨rfl,rfl⟩,rfl,⟨rfl,rfl⟩,rfl,⟨rfl,rfl⟩,rfl,⟨rfl,rfl⟩,rfl,⟨rfl,rfl⟩,θ⟩) ?_
    rintro⟨v79,v80⟩ o H
    try dsimp only
    refine wkz ?_
    refine f8 rfl (λh=>?_) (λh=>?_)
    .have H:=bt h H
     refine wkz ?_
     refine aa H λx85 hx85 H=>oi rfl (oG hx85 rfl rfl rfl rfl) ?_
     refine wkz ?_
     refine oi rfl (olx (ixE hx85).2 rfl rfl rfl) ?_
     refine wkz ?_
     refine aa H λr86 q86 H=>oi rfl (ca rfl rfl rfl (IX.h q86) trivial rfl rfl rfl rfl) ?_
     refine wkz ?_
     refine aa H λv87 Hj H=>lZ ⟨[(2,.v (.c (.p 220 0))),(3,.v (.c (.p 221 0))),(4,tI (WR (2+r1.1))),(8,tI v66),(9,.v (.c (.w 223 v87.length))),(10,tI v79)],[(200,.var 124 [.d η (.l (v40.map eU8)),.d η (.i .i64 v41),.d η (.i .i64 v42)]),(220,.var 26 [.nil]),(221,.var 26 [.wn 222 v67.length]),(222,.cxo 222 154 3 v67 ξ),(223,.row 3 1 (v87.map eI) ζ ζ)],224⟩ ?_ ?_
     .have H:=Hj
      refine wkz ?_
      refine f8 rfl (λh=>?_) (λh=>?_)
      .have H:=bt h H
       refine wkz ?_
       obtain⟨h,H⟩:=rq H
       refine fR rfl (apT (enc:=eI) (ys:=v80) (zs:=[v79]) h) ?_
       refine wkz ?_
       cases H
       exact cQ ⟨rfl,rfl,rfl,rfl,rfl,rfl,rfl,rfl,wn rfl (by first|rfl|simp),rfl,rfl,rfl,θ⟩ ⟨rfl,⟨rfl,rfl⟩,rfl,⟨rfl,rfl⟩,rfl,⟨rfl,rfl⟩,rfl,⟨rfl,rfl⟩,rfl,⟨rfl,rfl⟩,θ⟩
      have H:=bf h H
      refine wkz ?_
      cases H
      exact cQ ⟨rfl,rfl,rfl,rfl,rfl,rfl,rfl,rfl,wn rfl (by first|rfl|simp),rfl,rfl,rfl,θ⟩ ⟨rfl,⟨rfl,rfl⟩,rfl,⟨rfl,rfl⟩,rfl,⟨rfl,rfl⟩,rfl,⟨rfl,rfl⟩,rfl,⟨rfl,rfl⟩,θ⟩
     refine wkz ?_
     cases H
     refine uj ?_
     exact cQ ⟨rfl,rfl,rfl,rfl,rfl,rfl,rfl,rfl,wn rfl (by first|rfl|simp),rfl,rfl,rfl,θ⟩ ⟨rfl,⟨rfl,rfl⟩,rfl,⟨rfl,rfl⟩,rfl,⟨rfl,rfl⟩,rfl,⟨rfl,rfl⟩,rfl,⟨rfl,rfl⟩,θ⟩
    have H:=bf h H
    refine wkz ?_
    cases H
    refine yo (λhq=>?_)
    cases hq
    refine wkz ?_
    exact cQ ⟨rfl,rfl,rfl,rfl,rfl,rfl,rfl,rfl,wn rfl (by first|rfl|simp),rfl,θ⟩ ⟨rfl,⟨rfl,rfl⟩,rfl,⟨rfl,rfl⟩,rfl,⟨rfl,rfl⟩,rfl,⟨rfl,rfl⟩,rfl,⟨rfl,rfl⟩,θ⟩
   refine wkz ?_
   refine aa H λx88 hx88 H=>oi rfl (oG hx88 rfl rfl rfl rfl) ?_
   refine wkz ?_
   refine fR rfl (ye (o:=222) (s:=223) (ys:=v84) rfl rfl rfl rfl rfl (ixE hx88).2 (.inl rfl) rfl rfl rfl rfl rfl rfl rfl) ?_
   refine wkz ?_
   cases H
   refine uj ?_
   refine aP (iw (o:=222) (n:=(v67.set (v66).toNat (x88.1,v84)).length) rfl rfl (by repeat (first|exact θ|refine⟨by first|rfl|simp,?_⟩)) (by repeat (first|exact θ|refine⟨by first|rfl|simp,?_⟩))) ?_
   exact cQ ⟨rfl,rfl,rfl,rfl,rfl,rfl,rfl,rfl,θ⟩ ⟨rfl,⟨rfl,rfl⟩,rfl,⟨rfl,rfl⟩,rfl,⟨rfl,rfl⟩,rfl,⟨rfl,rfl⟩,θ⟩
  have H:=bf h H
  refine wkz ?_
  cases H
  refine yo (λhq=>?_)
  cases hq
  refine wkz ?_
  exact cQ ⟨rfl,rfl,rfl,rfl,θ⟩ ⟨rfl,⟨rfl,rfl⟩,rfl,⟨rfl,rfl⟩,rfl,⟨rfl,rfl⟩,rfl,⟨rfl,rfl⟩,θ⟩
 refine wkz ?_
 cases H
 refine clo_w (N:=85) ?_ hq
 exact cQ ⟨rfl,rfl,θ⟩ ⟨rfl,⟨rfl,rfl⟩,rfl,⟨rfl,rfl⟩,rfl,⟨rfl,rfl⟩,θ⟩
theorem MM{a0:av}{r:List (Int×List Int)×av}(H:oB a0=ς r){AQ:Exit->St->Prop}[Clo 85 AQ](hq:AQ .ret ⟨[(2,.v (.c (.p 220 0)))],[(200,.var 124 [.d η (.l (r.2.fb.map eU8)),.d η (.i .i64 r.2.fi),.d η (.i .i64 r.2.fh)]),(220,.var 26 [.wn 222 r.1.length]),(222,.cxo 222 154 3 r.1 ξ),(201,.var 26 [.nil])],223⟩):
 ∃c,Tryz.f133.body=ς c/\AWC prog 85 c ⟨[(0,.v (.c (.p 200 0)))],[(200,.var 124 [.d η (.l (a0.fb.map eU8)),.d η (.i .i64 a0.fi),.d η (.i .i64 a0.fh)]),(201,.var 26 [.nil])],220⟩ AQ:=by
 refine⟨_,rfl,?_⟩
 refine wkz ?_
 refine aa H λr1 q1 H=>fR rfl (cw (o:=200) (cr.h q1) rfl rfl rfl rfl rfl rfl trivial rfl rfl rfl rfl) ?_
 refine wkz ?_
 obtain⟨⟨v8,v9,v10,v11⟩,Hj,H⟩:=ob H
 refine jT ⟨[(0,.v (.c (.p 200 0))),(2,.v (.c (.p 220 0))),(3,.v (.c (.p 221 0))),(4,tI (WR (2+r1.1)))],[(200,.var 124 [.d η (.l (v8.map eU8)),.d η (.i .i64 v9),.d η (.i .i64 v10)]),(220,.var 26 [.nil]),(221,.var 26 [.wn 222 v11.length]),(222,.rown 154 2 (v11.map RJ) ζ),(201,.var 26 [.nil])],223⟩ ?_ ?_
 .refine wkz ?_
  refine kU (λ(q:Int×List Int×Int×Int×List Int)=>⟨[(0,.v (.c (.p 200 0))),(2,.v (.c (.p 220 0))),(3,.v (.c (.p 221 0))),(4,tI (WR (2+r1.1))),(5,tI q.1)],[(200,.var 124 [.d η (.l (q.2.1.map eU8)),.d η (.i .i64 q.2.2.1),.d η (.i .i64 q.2.2.2.1)]),(220,.var 26 [.nil]),(221,.var 26 [.wn 222 q.2.2.2.2.length]),(222,.rown 154 2 (q.2.2.2.2.map RJ) ζ),(201,.var 26 [.nil])],223⟩) Hj (by refine aP (eo (o:=221) (j:=0) 154 2 ζ rfl rfl rfl rfl rfl) ?_;refine aP (iw (o:=222) (n:=([]:List Int).length) rfl rfl (by repeat (first|exact θ|refine⟨by first|rfl|simp,?_⟩)) (by repeat (first|exact θ|refine⟨by first|rfl|simp,?_⟩))) ?_;exact cQ ⟨rfl,rfl,rfl,rfl,rfl,rfl,rfl,rfl,rfl,rfl,θ⟩ ⟨rfl,⟨rfl,rfl⟩,rfl,⟨rfl,rfl⟩,rfl,⟨rfl,rfl⟩,rfl,⟨rfl,rfl⟩,rfl,⟨rfl,rfl⟩,θ⟩) ?_
  rintro⟨v2,v3,v4,v5,v6⟩ o H
  try dsimp only
  refine wkz ?_
  refine f8 rfl (λh=>?_) (λh=>?_)
  .have H:=bt h H
   refine wkz ?_
   refine kx [0,1,2,3,4,5,6,7,8] Try.follows (by kernel_rfl) (by kernel_rfl) rfl ?_
   refine wkz ?_
   refine aa H λr12 q12 H=>rE rfl (cwx (o:=200) (cr.h q12) rfl rfl rfl rfl rfl rfl trivial rfl rfl rfl rfl) ?_
   refine ij rfl (bdk rfl rfl rfl rfl) ?_
   refine wkz ?_
   obtain⟨h,H⟩:=rq H
   refine w8 (by kernel_rfl) rfl (by kernel_rfl) cA (kz rfl (Jp (enc:=RJ) (ys:=v6) (zs:=[r12.1]) h (by first|exact List.cons_ne_nil _ _|simp) rfl (λ_=>rfl) (by first|rfl|simp) (.w rfl (by first|rfl|exact lm _|simp)) rfl rfl rfl rfl rfl rfl rfl rfl rfl rfl)) cA rfl ?_
   refine wkz ?_
   refine rE rfl (spx 100015 rfl rfl rfl rfl rfl rfl rfl rfl) ?_
   refine wkz ?_
   cases H
   refine uj ?_
   refine aP (fZ 222 rfl rfl rfl) ?_
   exact cQ ⟨rfl,rfl,rfl,rfl,rfl,rfl,rfl,rfl,rfl,rfl,θ⟩ ⟨rfl,⟨rfl,rfl⟩,rfl,⟨rfl,rfl⟩,rfl,⟨rfl,rfl⟩,rfl,⟨rfl,rfl⟩,rfl,⟨rfl,rfl⟩,θ⟩
  have H:=bf h H
  refine wkz ?_
  cases H
  refine yo (λhq=>?_)
  cases hq
  refine wkz ?_
  exact cQ ⟨rfl,rfl,rfl,rfl,rfl,rfl,rfl,rfl,θ⟩ ⟨rfl,⟨rfl,rfl⟩,rfl,⟨rfl,rfl⟩,rfl,⟨rfl,rfl⟩,rfl,⟨rfl,rfl⟩,rfl,⟨rfl,rfl⟩,θ⟩
 refine wkz ?_
 refine f9 (Ri (o:=222) (nt:=3) (al:=v11) rfl rfl) ?_
 refine f9 (iw (o:=222) (n:=(v11.map λa=>((a,[]):Int×List Int)).length) rfl rfl (by repeat (first|exact θ|refine⟨by first|rfl|simp,?_⟩)) (by repeat (first|exact θ|refine⟨by first|rfl|simp,?_⟩))) ?_
 obtain⟨⟨v40,v41,v42,v43⟩,Hj,H⟩:=ob H
 refine jT ⟨[(2,.v (.c (.p 220 0))),(3,.v (.c (.p 221 0))),(4,tI (WR (2+r1.1)))],[(200,.var 124 [.d η (.l (v40.map eU8)),.d η (.i .i64 v41),.d η (.i .i64 v42)]),(220,.var 26 [.nil]),(221,.var 26 [.wn 222 v43.length]),(222,.cxo 222 154 3 v43 ξ),(201,.var 26 [.nil])],223⟩ ?_ ?_
 .refine wkz ?_
  refine kU (λ(q:Int×List Int×Int×Int×List (Int×List Int))=>⟨[(0,.v (.c (.p 200 0))),(2,.v (.c (.p 220 0))),(3,.v (.c (.p 221 0))),(4,tI (WR (2+r1.1))),(6,tI q.1)],[(200,.var 124 [.d η (.l (q.2.1.map eU8)),.d η (.i .i64 q.2.2.1),.d η (.i .i64 q.2.2.2.1)]),(220,.var 26 [.nil]),(221,.var 26 [.wn 222 q.2.2.2.2.length]),(222,.cxo 222 154 3 q.2.2.2.2 ξ),(201,.var 26 [.nil])],223⟩) Hj (cQ ⟨rfl,rfl,rfl,rfl,rfl,rfl,rfl,rfl,rfl,rfl,θ⟩ ⟨rfl,⟨rfl,rfl⟩,rfl,⟨rfl,rfl⟩,rfl,⟨rfl,rfl⟩,rfl,⟨rfl,rfl⟩,rfl,⟨rfl,rfl⟩,θ⟩) ?_
  rintro⟨v13,v14,v15,v16,v17⟩ o H
  try dsimp only
  refine wkz ?_
  refine f8 rfl (λh=>?_) (λh=>?_)
  .have H:=bt h H
   refine wkz ?_
   obtain⟨⟨v55,v56,v57,v58⟩,Hj,H⟩:=ob H
   refine jT ⟨[(0,.v (.c (.p 200 0))),(2,.v (.c (.p 220 0))),(3,.v (.c (.p 221 0))),(4,tI (WR (2+r1.1))),(6,tI v13)],[(200,.var 124 [.d η (.l (v55.map eU8)),.d η (.i .i64 v56),.d η (.i .i64 v57)]),(220,.var 26 [.nil]),(221,.var 26 [.wn 222 v58.length]),(222,.cxo 222 154 3 v58 ξ),(201,.var 26 [.nil])],223⟩ ?_ ?_
   .refine wkz ?_
    refine kU (λ(q:Int×List Int×Int×Int×List (Int×List Int))=>⟨[(0,.v (.c (.p 200 0))),(2,.v (.c (.p 220 0))),(3,.v (.c (.p 221 0))),(4,tI (WR (2+r1.1))),(6,tI v13),(7,tI q.1)],[(200,.var 124 [.d η (.l (q.2.1.map eU8)),.d η (.i .i64 q.2.2.1),.d η (.i .i64 q.2.2.2.1)]),(220,.var 26 [.nil]),(221,.var 26 [.wn 222 q.2.2.2.2.length]),(222,.cxo 222 154 3 q.2.2.2.2 ξ),(201,.var 26 [.nil])],223⟩) Hj (cQ ⟨rfl,rfl,rfl,rfl,rfl,rfl,rfl,rfl,rfl,rfl,rfl,rfl,θ⟩ ⟨rfl,⟨rfl,rfl⟩,rfl,⟨rfl,rfl⟩,rfl,⟨rfl,rfl⟩,rfl,⟨rfl,rfl⟩,rfl,⟨rfl,rfl⟩,θ⟩) ?_
    rintro⟨v43,v44,v45,v46,v47⟩ o H
    try dsimp only
    refine wkz ?_
    refine f8 rfl (λh=>?_) (λh=>?_)
    .have H:=bt h H
     refine wkz ?_
     obtain⟨⟨v58,v59,v60,v61⟩,Hj,H⟩:=ob H
     refine BN ⟨[(0,.v (.c (.p 200 0))),(2,.v (.c (.p 220 0))),(3,.v (.c (.p 221 0))),(4,tI (WR (2+r1.1))),(6,tI v13),(7,tI v43),(50,tB v58)],[(200,.var 124 [.d η (.l (v59.map eU8)),.d η (.i .i64 v60),.d η (.i .i64 v61)]),(220,.var 26 [.nil]),(221,.var 26 [.wn 222 v47.length]),(222,.cxo 222 154 3 v47 ξ),(201,.var 26 [.nil])],223⟩ ?_ ?_
     .have H:=Hj
      refine wkz ?_
      refine g2 rfl rfl rfl (λh=>?_) (λh=>?_)
      .have H:=bt h H
       refine wkz ?_
       refine aa H λr62 q62 H=>gF rfl rfl (dm rfl) rfl (cw (o:=200) (ko.h q62) rfl rfl rfl rfl rfl rfl trivial rfl rfl rfl rfl) ?_
       refine wkz ?_
       refine g2 rfl rfl rfl (λh=>?_) (λh=>?_)
       .have H:=bt h H
        refine wkz ?_
        cases H
        exact cQ ⟨rfl,rfl,rfl,rfl,rfl,rfl,rfl,rfl,rfl,rfl,rfl,rfl,rfl,rfl,θ⟩ ⟨rfl,⟨rfl,rfl⟩,rfl,⟨rfl,rfl⟩,rfl,⟨rfl,rfl⟩,rfl,⟨rfl,rfl⟩,rfl,⟨rfl,rfl⟩,θ⟩
       have H:=bf h H
       refine wkz ?_
       refine aa H λr63 q63 H=>gF rfl rfl (dm rfl) rfl (cw (o:=200) (ko.h q63) rfl rfl rfl rfl rfl rfl trivial rfl rfl rfl rfl) ?_
       refine wkz ?_
       cases H
       exact cQ ⟨rfl,rfl,rfl,rfl,rfl,rfl,rfl,rfl,rfl,rfl,rfl,rfl,rfl,rfl,θ⟩ ⟨rfl,⟨rfl,rfl⟩,rfl,⟨rfl,rfl⟩,rfl,⟨rfl,rfl⟩,rfl,⟨rfl,rfl⟩,rfl,⟨rfl,rfl⟩,θ⟩
      have H:=bf h H
      refine wkz ?_
      refine aa H λr64 q64 H=>gF rfl rfl (dm rfl) rfl (cw (o:=200) (ko.h q64) rfl rfl rfl rfl rfl rfl trivial rfl rfl rfl rfl) ?_
      refine wkz ?_
      cases H
      exact cQ ⟨rfl,rfl,rfl,rfl,rfl,rfl,rfl,rfl,rfl,rfl,rfl,rfl,rfl,rfl,θ⟩ ⟨rfl,⟨rfl,rfl⟩,rfl,⟨rfl,rfl⟩,rfl,⟨rfl,rfl⟩,rfl,⟨rfl,rfl⟩,rfl,⟨rfl,rfl⟩,θ⟩
     refine wkz ?_
     refine aa H λv62 Hj H=>lZ ⟨[(0,.v (.c (.p 200 0))),(2,.v (.c (.p 220 0))),(3,.v (.c (.p 221 0))),(4,tI (WR (2+r1.1))),(6,tI v13),(7,tI v43)],[(200,.var 124 [.d η (.l (v59.map eU8)),.d η (.i .i64 v60),.d η (.i .i64 v61)]),(220,.var 26 [.nil]),(221,.var 26 [.wn 222 v62.length]),(222,.cxo 222 154 3 v62 ξ),(201,.var 26 [.nil])],223⟩ ?_ ?_
     .have H:=Hj
      refine wkz ?_
      refine f8 rfl (λh=>?_) (λh=>?_)
      .have H:=bt h H
       refine wkz ?_
       obtain⟨r65,q65,H⟩:=ob H
       obtain⟨cJ,hcJ,hJ⟩:=MO (fb:=v59.map eU8) (fi:=v60) (fh:=v61) q65 rfl
       refine fR rfl (Wr (m:=[(200,200),(202,220),(203,221),(222,222),(201,201)]) (m':=[(200,200),(202,220),(203,221),(222,222),(201,201)]) (nx':=223) func229 hcJ (by kernel_rfl) ntmps229 rfl hJ rfl rfl rfl rfl rfl rfl rfl rfl rfl rfl rfl) ?_
       refine wkz ?_
       cases H
       refine aP (iw (o:=222) (n:=v62.length) rfl rfl (by repeat (first|exact θ|refine⟨by first|rfl|exact(jt q65).symm|exact jt q65|simp,?_⟩)) (by repeat (first|exact θ|refine⟨by first|rfl|exact(jt q65).symm|exact jt q65|simp,?_⟩))) ?_
       exact cQ ⟨rfl,rfl,rfl,rfl,rfl,rfl,rfl,rfl,rfl,rfl,rfl,rfl,θ⟩ ⟨rfl,⟨rfl,rfl⟩,rfl,⟨rfl,rfl⟩,rfl,⟨rfl,rfl⟩,rfl,⟨rfl,rfl⟩,rfl,⟨rfl,rfl⟩,θ⟩
      have H:=bf h H
      refine wkz ?_
      cases H
      exact cQ ⟨rfl,rfl,rfl,rfl,rfl,rfl,rfl,rfl,rfl,rfl,rfl,rfl,θ⟩ ⟨rfl,⟨rfl,rfl⟩,rfl,⟨rfl,rfl⟩,rfl,⟨rfl,rfl⟩,rfl,⟨rfl,rfl⟩,rfl,⟨rfl,rfl⟩,θ⟩
     refine wkz ?_
     cases H
     refine uj ?_
     exact cQ ⟨rfl,rfl,rfl,rfl,rfl,rfl,rfl,rfl,rfl,rfl,rfl,rfl,θ⟩ ⟨rfl,⟨rfl,rfl⟩,rfl,⟨rfl,rfl⟩,rfl,⟨rfl,rfl⟩,rfl,⟨rfl,rfl⟩,rfl,⟨rfl,rfl⟩,θ⟩
    have H:=bf h H
    refine wkz ?_
    cases H
    refine yo (λhq=>?_)
    cases hq
    refine wkz ?_
    exact cQ ⟨rfl,rfl,rfl,rfl,rfl,rfl,rfl,rfl,rfl,rfl,θ⟩ ⟨rfl,⟨rfl,rfl⟩,rfl,⟨rfl,rfl⟩,rfl,⟨rfl,rfl⟩,rfl,⟨rfl,rfl⟩,rfl,⟨rfl,rfl⟩,θ⟩
   refine wkz ?_
   cases H
   refine uj ?_
   exact cQ ⟨rfl,rfl,rfl,rfl,rfl,rfl,rfl,rfl,rfl,rfl,θ⟩ ⟨rfl,⟨rfl,rfl⟩,rfl,⟨rfl,rfl⟩,rfl,⟨rfl,rfl⟩,rfl,⟨rfl,rfl⟩,rfl,⟨rfl,rfl⟩,θ⟩
  have H:=bf h H
  refine wkz ?_
  cases H
  refine yo (λhq=>?_)
  cases hq
  refine wkz ?_
  exact cQ ⟨rfl,rfl,rfl,rfl,rfl,rfl,θ⟩ ⟨rfl,⟨rfl,rfl⟩,rfl,⟨rfl,rfl⟩,rfl,⟨rfl,rfl⟩,rfl,⟨rfl,rfl⟩,rfl,⟨rfl,rfl⟩,θ⟩
 refine wkz ?_
 refine aa H λv78 Hj H=>jT ⟨[(2,.v (.c (.p 220 0))),(3,.v (.c (.p 221 0)))],[(200,.var 124 [.d η (.l (v40.map eU8)),.d η (.i .i64 v41),.d η (.i .i64 v42)]),(220,.var 26 [.nil]),(221,.var 26 [.wn 222 v78.length]),(222,.cxo 222 154 3 v78 ξ),(201,.var 26 [.nil])],223⟩ ?_ ?_
 .refine wkz ?_
  refine kU (λ(q:Int×List (Int×List Int))=>⟨[(2,.v (.c (.p 220 0))),(3,.v (.c (.p 221 0))),(4,tI (WR (2+r1.1))),(8,tI q.1)],[(200,.var 124 [.d η (.l (v40.map eU8)),.d η (.i .i64 v41),.d η (.i .i64 v42)]),(220,.var 26 [.nil]),(221,.var 26 [.wn 222 q.2.length]),(222,.cxo 222 154 3 q.2 ξ),(201,.var 26 [.nil])],223⟩) Hj (cQ ⟨rfl,rfl,rfl,rfl,rfl,rfl,rfl,rfl,θ⟩ ⟨rfl,⟨rfl,rfl⟩,rfl,⟨rfl,rfl⟩,rfl,⟨rfl,rfl⟩,rfl,⟨rfl,rfl⟩,rfl,⟨rfl,rfl⟩,θ⟩) ?_
  rintro⟨v66,v67⟩ o H
  try dsimp only
  refine wkz ?_
  refine f8 rfl (λh=>?_) (λh=>?_)
  .have H:=bt h H
   refine wkz ?_
   refine aa H λv84 Hj H=>jT ⟨[(2,.v (.c (.p 220 0))),(3,.v (.c (.p 221 0))),(4,tI (WR (2+r1.1))),(8,tI v66),(9,.v (.c (.w 223 v84.length)))],[(200,.var 124 [.d η (.l (v40.map eU8)),.d η (.i .i64 v41),.d η (.i .i64 v42)]),(220,.var 26 [.nil]),(221,.var 26 [.wn 222 v67.length]),(222,.cxo 222 154 3 v67 ξ),(223,.row 3 1 (v84.map eI) ζ ζ),(201,.var 26 [.nil])],224⟩ ?_ ?_
   .refine wkz ?_
    refine kU (λ(q:Int×List Int)=>⟨[(2,.v (.c (.p 220 0))),(3,.v (.c (.p 221 0))),(4,tI (WR (2+r1.1))),(8,tI v66),(9,.v (.c (.w 223 q.2.length))),(10,tI q.1)],[(200,.var 124 [.d η (.l (v40.map eU8)),.d η (.i .i64 v41),.d η (.i .i64 v42)]),(220,.var 26 [.nil]),(221,.var 26 [.wn 222 v67.length]),(222,.cxo 222 154 3 v67 ξ),(223,.row 3 1 (q.2.map eI) ζ ζ),(201,.var 26 [.nil])],224⟩) Hj (cQ ⟨rfl,rfl,rfl,rfl,rfl,rfl,rfl,rfl,wn rfl (by first|rfl|simp),rfl,rfl,rfl,θ⟩ ⟨rfl,⟨rfl,rfl⟩,rfl,⟨rfl,rfl⟩,rfl,⟨rfl,rfl⟩,rfl,⟨rfl,rfl⟩,rfl,⟨rfl,rfl⟩,rfl,⟨rfl,rfl⟩,θ⟩) ?_
    rintro⟨v79,v80⟩ o H
    try dsimp only
    refine wkz ?_
    refine f8 rfl (λh=>?_) (λh=>?_)
    .have H:=bt h H
     refine wkz ?_
     refine aa H λx85 hx85 H=>oi rfl (oG hx85 rfl rfl rfl rfl) ?_
     refine wkz ?_
     refine oi rfl (olx (ixE hx85).2 rfl rfl rfl) ?_
     refine wkz ?_
     refine aa H λr86 q86 H=>oi rfl (ca rfl rfl rfl (IX.h q86) trivial rfl rfl rfl rfl) ?_
     refine wkz ?_
     refine aa H λv87 Hj H=>lZ ⟨[(2,.v (.c (.p 220 0))),(3,.v (.c (.p 221 0))),(4,tI (WR (2+r1.1))),(8,tI v66),(9,.v (.c (.w 223 v87.length))),(10,tI v79)],[(200,.var 124 [.d η (.l (v40.map eU8)),.d η (.i .i64 v41),.d η (.i .i64 v42)]),(220,.var 26 [.nil]),(221,.var 26 [.wn 222 v67.length]),(222,.cxo 222 154 3 v67 ξ),(223,.row 3 1 (v87.map eI) ζ ζ),(201,.var 26 [.nil])],224⟩ ?_ ?_
     .have H:=Hj
      refine wkz ?_
      refine f8 rfl (λh=>?_) (λh=>?_)
      .have H:=bt h H
       refine wkz ?_
       obtain⟨h,H⟩:=rq H
       refine fR rfl (apT (enc:=eI) (ys:=v80) (zs:=[v79]) h) ?_
       refine wkz ?_
       cases H
       exact cQ ⟨rfl,rfl,rfl,rfl,rfl,rfl,rfl,rfl,wn rfl (by first|rfl|simp),rfl,rfl,rfl,θ⟩ ⟨rfl,⟨rfl,rfl⟩,rfl,⟨rfl,rfl⟩,rfl,⟨rfl,rfl⟩,rfl,⟨rfl,rfl⟩,rfl,⟨rfl,rfl⟩,rfl,⟨rfl,rfl⟩,θ⟩
      have H:=bf h H
      refine wkz ?_
      cases H
      exact cQ ⟨rfl,rfl,rfl,rfl,rfl,rfl,rfl,rfl,wn rfl (by first|rfl|simp),rfl,rfl,rfl,θ⟩ ⟨rfl,⟨rfl,rfl⟩,rfl,⟨rfl,rfl⟩,rfl,⟨rfl,rfl⟩,rfl,⟨rfl,rfl⟩,rfl,⟨rfl,rfl⟩,rfl,⟨rfl,rfl⟩,θ⟩
     refine wkz ?_
     cases H
     refine uj ?_
     exact cQ ⟨rfl,rfl,rfl,rfl,rfl,rfl,rfl,rfl,wn rfl (by first|rfl|simp),rfl,rfl,rfl,θ⟩ ⟨rfl,⟨rfl,rfl⟩,rfl,⟨rfl,rfl⟩,rfl,⟨rfl,rfl⟩,rfl,⟨rfl,rfl⟩,rfl,⟨rfl,rfl⟩,rfl,⟨rfl,rfl⟩,θ⟩
    have H:=bf h H
    refine wkz ?_
    cases H
    refine yo (λhq=>?_)
    cases hq
    refine wkz ?_
    exact cQ ⟨rfl,rfl,rfl,rfl,rfl,rfl,rfl,rfl,wn rfl (by first|rfl|simp),rfl,θ⟩ ⟨rfl,⟨rfl,rfl⟩,rfl,⟨rfl,rfl⟩,rfl,⟨rfl,rfl⟩,rfl,⟨rfl,rfl⟩,rfl,⟨rfl,rfl⟩,rfl,⟨rfl,rfl⟩,θ⟩
   refine wkz ?_
   refine aa H λx88 hx88 H=>oi rfl (oG hx88 rfl rfl rfl rfl) ?_
   refine wkz ?_
   refine fR rfl (ye (o:=222) (s:=223) (ys:=v84) rfl rfl rfl rfl rfl (ixE hx88).2 (.inl rfl) rfl rfl rfl rfl rfl rfl rfl) ?_
   refine wkz ?_
   cases H
   refine uj ?_
   refine aP (iw (o:=222) (n:=(v67.set (v66).toNat (x88.1,v84)).length) rfl rfl (by repeat (first|exact θ|refine⟨by first|rfl|simp,?_⟩)) (by repeat (first|exact θ|refine⟨by first|rfl|simp,?_⟩))) ?_
   exact cQ ⟨rfl,rfl,rfl,rfl,rfl,rfl,rfl,rfl,θ⟩ ⟨rfl,⟨rfl,rfl⟩,rfl,⟨rfl,rfl⟩,rfl,⟨rfl,rfl⟩,rfl,⟨rfl,rfl⟩,rfl,⟨rfl,rfl⟩,θ⟩
  have H:=bf h H
  refine wkz ?_
  cases H
  refine yo (λhq=>?_)
  cases hq
  refine wkz ?_
  exact cQ ⟨rfl,rfl,rfl,rfl,θ⟩ ⟨rfl,⟨rfl,rfl⟩,rfl,⟨rfl,rfl⟩,rfl,⟨rfl,rfl⟩,rfl,⟨rfl,rfl⟩,rfl,⟨rfl,rfl⟩,θ⟩
 refine wkz ?_
 cases H
 refine clo_w (N:=85) ?_ hq
 exact cQ ⟨rfl,rfl,θ⟩ ⟨rfl,⟨rfl,rfl⟩,rfl,⟨rfl,rfl⟩,rfl,⟨rfl,rfl⟩,rfl,⟨rfl,rfl⟩,θ⟩
theorem zW(v:List (Int×List Int)):v.map U2=(v.map λe=>(⟨e.1,e.2⟩:dY)).map eL:=by rw[List.map_map];rfl
instance GW{a0:av}{r:aZ×av}:FCV prog (CJ a0=ς r) 133 [(200,.var 124 [.d η (.l (a0.fb.map eU8)),.d η (.i .i64 a0.fi),.d η (.i .i64 a0.fh)])] [.v (.c (.p 200 0))] [(200,.var 124 [.d η (.l (r.2.fb.map eU8)),.d η (.i .i64 r.2.fi),.d η (.i .i64 r.2.fh)])] (.v (.agg [.wn 210 r.1.bp.length])) [(210,.rown 154 2 (r.1.bp.map eL) ζ)]:=⟨λH=>by
 obtain⟨⟨v,cu⟩,hX,H⟩:=ob H
 cases H
 obtain⟨c,hc,h⟩:=ML hX (AQ:=oh 85 prog [ResultVar.cell 2 26] [(200,.var 124 [.d η (.l (cu.fb.map eU8)),.d η (.i .i64 cu.fi),.d η (.i .i64 cu.fh)])] (.v (.agg [.wn 210 (v.map λe=>(⟨e.1,e.2⟩:dY)).length])) [(210,.rown 154 2 ((v.map λe=>(⟨e.1,e.2⟩:dY)).map eL) ζ)]) (by
  refine bM (xW (o:=222) rfl rfl rfl rfl rfl) ?_
  rw[zW]
  refine bM (iw (o:=222) (n:=(v.map λe=>(⟨e.1,e.2⟩:dY)).length) rfl rfl (by repeat (first|exact θ|refine⟨by first|rfl|simp,?_⟩)) (by repeat (first|exact θ|refine⟨by first|rfl|simp,?_⟩))) ?_
  refine bM (zL (p:=222) (q:=210) rfl rfl rfl rfl) ?_
  exact dy (.cons (.cell rfl rfl rfl) .nil) rfl (by first|rfl|simp) ⟨rfl,θ⟩ ⟨rfl,θ⟩)
 exact JH func133 hc (by kernel_rfl) ntmps133 rfl rfl rfl (f9 (vl (nx':=220) rfl) h)⟩
end Go.AM
