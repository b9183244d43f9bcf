/- A part. -/
import Derived.Test.YtbfpkbncbebapaaGreatS2
set_option linter.unusedVariables false
open Option renaming bind->aaC
namespace Go.AM
open Go.Proofs
open Tryz
attribute [local irreducible] AWN NS AWO AWR AWC DR dO ip
set_option maxRecDepth 100000
set_option maxHeartbeats 40000000
def BZ (r1:Int×bV):(Int×List Int×Int×Int×List Int)->Option (cK (Int×List Int×Int×Int×List Int) (List Int×Int×Int×List Int))
 |(v2,v3,v4,v5,v6)=>bif ltB v2 (WR (2+r1.1)) then(aaC (gG (⟨v3,v4,v5⟩:bV) 2) λr12=>bif em 32 (v6++[r12.1]).length then(some (.next (WR (v2+1),r12.2.fb,r12.2.fi,r12.2.fh,(v6++[r12.1])))) else none) else(some (.done (v3,v4,v5,v6)))
def B1 (v13:Int):(Int×List Int×Int×Int×List (Int×List Int))->Option (cK (Int×List Int×Int×Int×List (Int×List Int)) (List Int×Int×Int×List (Int×List Int)))
 |(v43,v44,v45,v46,v47)=>bif ltB v43 v13 then(aaC (bif eqB v43 (WR (v13-1)) then(aaC (qD (⟨v44,v45,v46⟩:bV) 5) λr62=>bif !r62.1 then(some (true,r62.2.fb,r62.2.fi,r62.2.fh)) else(aaC (qD r62.2 4) λr63=>some (r63.1,r63.2.fb,r63.2.fi,r63.2.fh))) else(aaC (qD (⟨v44,v45,v46⟩:bV) 4) λr64=>some (r64.1,r64.2.fb,r64.2.fi,r64.2.fh))) λ((v58,v59,v60,v61):Bool×List Int×Int×Int)=>aaC (bif v58 then(aaC (ur v47 v43 v13) λr65=>some r65) else(some v47)) λ(v62:List (Int×List Int))=>some (.next (WR (v43+1),v59,v60,v61,v62))) else(some (.done (v44,v45,v46,v47)))
def B0 (r1:Int×bV):(Int×List Int×Int×Int×List (Int×List Int))->Option (cK (Int×List Int×Int×Int×List (Int×List Int)) (List Int×Int×Int×List (Int×List Int)))
 |(v13,v14,v15,v16,v17)=>bif ltB v13 (WR (2+r1.1)) then(aaC (iter (B1 v13) FU (0,v14,v15,v16,v17)) λ((v55,v56,v57,v58):List Int×Int×Int×List (Int×List Int))=>some (.next (WR (v13+1),v55,v56,v57,v58))) else(some (.done (v14,v15,v16,v17)))
def B3 (r1:Int×bV) (v66:Int) (v67:List (Int×List Int)):(Int×List Int)->Option (cK (Int×List Int) (List Int))
 |(v79,v80)=>bif ltB v79 (WR (2+r1.1)) then(aaC (ix v67 v66) λx85=>aaC (Aq x85.2 v79) λr86=>aaC (bif r86 then(bif em 8 (v80++[v79]).length then(some (v80++[v79])) else none) else(some v80)) λ(v87:List Int)=>some (.next (WR (v79+1),v87))) else(some (.done v80))
def B2 (r1:Int×bV):(Int×List (Int×List Int))->Option (cK (Int×List (Int×List Int)) (List (Int×List Int)))
 |(v66,v67)=>bif ltB v66 (WR (2+r1.1)) then(aaC (iter (B3 r1 v66 v67) FU (0,([]:List Int))) λ(v84:List Int)=>aaC (ix v67 v66) λx88=>some (.next (WR (v66+1),(v67.set (v66).toNat (x88.1,v84))))) else(some (.done v67))
def xE (a0:bV):Option (List (Int×List Int)×bV):=
 aaC (gG a0 4) λr1=>aaC (iter (BZ r1) FU (0,r1.2.fb,r1.2.fi,r1.2.fh,([]:List Int))) λ((v8,v9,v10,v11):List Int×Int×Int×List Int)=>aaC (iter (B0 r1) FU (1,v8,v9,v10,v11.map λa=>(a,[]))) λ((v40,v41,v42,v43):List Int×Int×Int×List (Int×List Int))=>aaC (iter (B2 r1) FU (0,v43)) λ(v78:List (Int×List Int))=>some (v78,(⟨v40,v41,v42⟩:bV))
def Ap (a0:bV):Option (aU×bV):=
 aaC (xE a0) λr=>some ((⟨r.1.map λe=>(⟨e.1,e.2⟩:eY)⟩:aU),r.2)
theorem K1 {a0:bV} {r:List (Int×List Int)×bV} (H:xE a0=some r) {AQ:Exit->St->Prop} [Clo 85 AQ] (hq:AQ .ret ⟨[(2,.v (.c (.p 220 0)))],[(200,.var 148 [.d false (.l (r.2.fb.map eU8)),.d false (.i .i64 r.2.fi),.d false (.i .i64 r.2.fh)]),(220,.var 26 [.wn 222 r.1.length]),(222,.cxo 222 158 3 r.1 none)],223⟩):
 ∃c,Tryz.f137.body=some c/\AWC prog 85 c ⟨[(0,.v (.c (.p 200 0)))],[(200,.var 148 [.d false (.l (a0.fb.map eU8)),.d false (.i .i64 a0.fi),.d false (.i .i64 a0.fh)])],220⟩ AQ:=by
 refine⟨_,rfl,?_⟩
 refine wkz ?_
 refine aa H λr1 q1 H=>fK rfl (cw (o:=200) (fU q1) rfl rfl rfl rfl rfl rfl trivial rfl rfl rfl rfl) ?_
 refine wkz ?_
 obtain⟨⟨v8,v9,v10,v11⟩,Hj,H⟩:=ob H
 refine tO ⟨[(0,.v (.c (.p 200 0))),(2,.v (.c (.p 220 0))),(3,.v (.c (.p 221 0))),(4,tI (WR (2+r1.1)))],[(200,.var 148 [.d false (.l (v8.map eU8)),.d false (.i .i64 v9),.d false (.i .i64 v10)]),(220,.var 26 [.nil]),(221,.var 26 [.wn 222 v11.length]),(222,.rown 158 2 (v11.map Xt) true)],223⟩ ?_ ?_
 .refine wkz ?_
  refine tN (λ(q:Int×List Int×Int×Int×List Int)=>⟨[(0,.v (.c (.p 200 0))),(2,.v (.c (.p 220 0))),(3,.v (.c (.p 221 0))),(4,tI (WR (2+r1.1))),(5,tI q.1)],[(200,.var 148 [.d false (.l (q.2.1.map eU8)),.d false (.i .i64 q.2.2.1),.d false (.i .i64 q.2.2.2.1)]),(220,.var 26 [.nil]),(221,.var 26 [.wn 222 q.2.2.2.2.length]),(222,.rown 158 2 (q.2.2.2.2.map Xt) true)],223⟩) Hj (by refine aH (gU (o:=221) (j:=0) 158 2 true rfl rfl rfl rfl rfl) ?_;refine aH (uD (o:=222) (n:=([]:List Int).length) rfl rfl (by repeat (first|exact trivial|refine⟨by first|rfl|simp,?_⟩)) (by repeat (first|exact trivial|refine⟨by first|rfl|simp,?_⟩))) ?_;exact eF ⟨rfl,rfl,rfl,rfl,rfl,rfl,rfl,rfl,rfl,rfl,trivial⟩ ⟨rfl,⟨rfl,rfl⟩,rfl,⟨rfl,rfl⟩,rfl,⟨rfl,rfl⟩,rfl,⟨rfl,rfl⟩,trivial⟩) ?_
  rintro⟨v2,v3,v4,v5,v6⟩ o H
  try dsimp only
  refine wkz ?_
  refine o9 rfl (λh=>?_) (λh=>?_)
  .have H:=bt h H
   refine wkz ?_
   refine mz [0,1,2,3,4,5,6,7,8] Try.follows (by kernel_rfl) (by kernel_rfl) rfl ?_
   refine wkz ?_
   refine aa H λr12 q12 H=>tg rfl (cwx (o:=200) (fU q12) rfl rfl rfl rfl rfl rfl trivial rfl rfl rfl rfl) ?_
   refine iS rfl (bdk rfl rfl rfl rfl) ?_
   refine wkz ?_
   obtain⟨h,H⟩:=rq H
   refine AU (by kernel_rfl) rfl (by kernel_rfl) b7 (jp rfl (Hn (enc:=Xt) (ys:=v6) (zs:=[r12.1]) h (by first|exact List.cons_ne_nil _ _|simp) rfl (λ_=>rfl) (by first|rfl|simp) (.w rfl (by first|rfl|exact lm _|simp)) rfl rfl rfl rfl rfl rfl rfl rfl rfl rfl)) b7 rfl ?_
   refine wkz ?_
   refine tg rfl (spx 100015 rfl rfl rfl rfl rfl rfl rfl rfl) ?_
   refine wkz ?_
   cases H
   refine eA ?_
   refine aH (lk 222 rfl rfl rfl) ?_
   exact eF ⟨rfl,rfl,rfl,rfl,rfl,rfl,rfl,rfl,rfl,rfl,trivial⟩ ⟨rfl,⟨rfl,rfl⟩,rfl,⟨rfl,rfl⟩,rfl,⟨rfl,rfl⟩,rfl,⟨rfl,rfl⟩,trivial⟩
  have H:=bf h H
  refine wkz ?_
  cases H
  refine et (λhq=>?_)
  cases hq
  refine wkz ?_
  exact eF ⟨rfl,rfl,rfl,rfl,rfl,rfl,rfl,rfl,trivial⟩ ⟨rfl,⟨rfl,rfl⟩,rfl,⟨rfl,rfl⟩,rfl,⟨rfl,rfl⟩,rfl,⟨rfl,rfl⟩,trivial⟩
 refine wkz ?_
 refine wc (Ww (o:=222) (nt:=3) (al:=v11) rfl rfl) ?_
 refine wc (uD (o:=222) (n:=(v11.map λa=>((a,[]):Int×List Int)).length) rfl rfl (by repeat (first|exact trivial|refine⟨by first|rfl|simp,?_⟩)) (by repeat (first|exact trivial|refine⟨by first|rfl|simp,?_⟩))) ?_
 obtain⟨⟨v40,v41,v42,v43⟩,Hj,H⟩:=ob H
 refine tO ⟨[(2,.v (.c (.p 220 0))),(3,.v (.c (.p 221 0))),(4,tI (WR (2+r1.1)))],[(200,.var 148 [.d false (.l (v40.map eU8)),.d false (.i .i64 v41),.d false (.i .i64 v42)]),(220,.var 26 [.nil]),(221,.var 26 [.wn 222 v43.length]),(222,.cxo 222 158 3 v43 none)],223⟩ ?_ ?_
 .refine wkz ?_
  refine tN (λ(q:Int×List Int×Int×Int×List (Int×List Int))=>⟨[(0,.v (.c (.p 200 0))),(2,.v (.c (.p 220 0))),(3,.v (.c (.p 221 0))),(4,tI (WR (2+r1.1))),(6,tI q.1)],[(200,.var 148 [.d false (.l (q.2.1.map eU8)),.d false (.i .i64 q.2.2.1),.d false (.i .i64 q.2.2.2.1)]),(220,.var 26 [.nil]),(221,.var 26 [.wn 222 q.2.2.2.2.length]),(222,.cxo 222 158 3 q.2.2.2.2 none)],223⟩) Hj (eF ⟨rfl,rfl,rfl,rfl,rfl,rfl,rfl,rfl,rfl,rfl,trivial⟩ ⟨rfl,⟨rfl,rfl⟩,rfl,⟨rfl,rfl⟩,rfl,⟨rfl,rfl⟩,rfl,⟨rfl,rfl⟩,trivial⟩) ?_
  rintro⟨v13,v14,v15,v16,v17⟩ o H
  try dsimp only
  refine wkz ?_
  refine o9 rfl (λh=>?_) (λh=>?_)
  .have H:=bt h H
   refine wkz ?_
   obtain⟨⟨v55,v56,v57,v58⟩,Hj,H⟩:=ob H
   refine tO ⟨[(0,.v (.c (.p 200 0))),(2,.v (.c (.p 220 0))),(3,.v (.c (.p 221 0))),(4,tI (WR (2+r1.1))),(6,tI v13)],[(200,.var 148 [.d false (.l (v55.map eU8)),.d false (.i .i64 v56),.d false (.i .i64 v57)]),(220,.var 26 [.nil]),(221,.var 26 [.wn 222 v58.length]),(222,.cxo 222 158 3 v58 none)],223⟩ ?_ ?_
   .refine wkz ?_
    refine tN (λ(q:Int×List Int×Int×Int×List (Int×List Int))=>⟨[(0,.v (.c (.p 200 0))),(2,.v (.c (.p 220 0))),(3,.v (.c (.p 221 0))),(4,tI (WR (2+r1.1))),(6,tI v13),(7,tI q.1)],[(200,.var 148 [.d false (.l (q.2.1.map eU8)),.d false (.i .i64 q.2.2.1),.d false (.i .i64 q.2.2.2.1)]),(220,.var 26 [.nil]),(221,.var 26 [.wn 222 q.2.2.2.2.length]),(222,.cxo 222 158 3 q.2.2.2.2 none)],223⟩) Hj (eF ⟨rfl,rfl,rfl,rfl,rfl,rfl,rfl,rfl,rfl,rfl,rfl,rfl,trivial⟩ ⟨rfl,⟨rfl,rfl⟩,rfl,⟨rfl,rfl⟩,rfl,⟨rfl,rfl⟩,rfl,⟨rfl,rfl⟩,trivial⟩) ?_
    rintro⟨v43,v44,v45,v46,v47⟩ o H
    try dsimp only
    refine wkz ?_
    refine o9 rfl (λh=>?_) (λh=>?_)
    .have H:=bt h H
     refine wkz ?_
     obtain⟨⟨v58,v59,v60,v61⟩,Hj,H⟩:=ob H
     refine Jm ⟨[(0,.v (.c (.p 200 0))),(2,.v (.c (.p 220 0))),(3,.v (.c (.p 221 0))),(4,tI (WR (2+r1.1))),(6,tI v13),(7,tI v43),(50,tB v58)],[(200,.var 148 [.d false (.l (v59.map eU8)),.d false (.i .i64 v60),.d false (.i .i64 v61)]),(220,.var 26 [.nil]),(221,.var 26 [.wn 222 v47.length]),(222,.cxo 222 158 3 v47 none)],223⟩ ?_ ?_
     .have H:=Hj
      refine wkz ?_
      refine g2 rfl rfl rfl (λh=>?_) (λh=>?_)
      .have H:=bt h H
       refine wkz ?_
       refine aa H λr62 q62 H=>lP rfl rfl (cX rfl) rfl (cw (o:=200) (uw q62) rfl rfl rfl rfl rfl rfl trivial rfl rfl rfl rfl) ?_
       refine wkz ?_
       refine g2 rfl rfl rfl (λh=>?_) (λh=>?_)
       .have H:=bt h H
        refine wkz ?_
        cases H
        exact eF ⟨rfl,rfl,rfl,rfl,rfl,rfl,rfl,rfl,rfl,rfl,rfl,rfl,rfl,rfl,trivial⟩ ⟨rfl,⟨rfl,rfl⟩,rfl,⟨rfl,rfl⟩,rfl,⟨rfl,rfl⟩,rfl,⟨rfl,rfl⟩,trivial⟩
       have H:=bf h H
       refine wkz ?_
       refine aa H λr63 q63 H=>lP rfl rfl (cX rfl) rfl (cw (o:=200) (uw q63) rfl rfl rfl rfl rfl rfl trivial rfl rfl rfl rfl) ?_
       refine wkz ?_
       cases H
       exact eF ⟨rfl,rfl,rfl,rfl,rfl,rfl,rfl,rfl,rfl,rfl,rfl,rfl,rfl,rfl,trivial⟩ ⟨rfl,⟨rfl,rfl⟩,rfl,⟨rfl,rfl⟩,rfl,⟨rfl,rfl⟩,rfl,⟨rfl,rfl⟩,trivial⟩
      have H:=bf h H
      refine wkz ?_
      refine aa H λr64 q64 H=>lP rfl rfl (cX rfl) rfl (cw (o:=200) (uw q64) rfl rfl rfl rfl rfl rfl trivial rfl rfl rfl rfl) ?_
      refine wkz ?_
      cases H
      exact eF ⟨rfl,rfl,rfl,rfl,rfl,rfl,rfl,rfl,rfl,rfl,rfl,rfl,rfl,rfl,trivial⟩ ⟨rfl,⟨rfl,rfl⟩,rfl,⟨rfl,rfl⟩,rfl,⟨rfl,rfl⟩,rfl,⟨rfl,rfl⟩,trivial⟩
     refine wkz ?_
     refine aa H λv62 Hj H=>wb ⟨[(0,.v (.c (.p 200 0))),(2,.v (.c (.p 220 0))),(3,.v (.c (.p 221 0))),(4,tI (WR (2+r1.1))),(6,tI v13),(7,tI v43)],[(200,.var 148 [.d false (.l (v59.map eU8)),.d false (.i .i64 v60),.d false (.i .i64 v61)]),(220,.var 26 [.nil]),(221,.var 26 [.wn 222 v62.length]),(222,.cxo 222 158 3 v62 none)],223⟩ ?_ ?_
     .have H:=Hj
      refine wkz ?_
      refine o9 rfl (λh=>?_) (λh=>?_)
      .have H:=bt h H
       refine wkz ?_
       obtain⟨r65,q65,H⟩:=ob H
       obtain⟨cJ,hcJ,hJ⟩:=K2 (fb:=v59.map eU8) (fi:=v60) (fh:=v61) q65 rfl
       refine fK rfl (o_inl (m:=[(200,200),(202,220),(203,221),(222,222)]) (m':=[(200,200),(202,220),(203,221),(222,222)]) (nx':=223) func213 hcJ (by kernel_rfl) ntmps213 rfl hJ rfl rfl rfl rfl rfl rfl rfl rfl rfl rfl rfl) ?_
       refine wkz ?_
       cases H
       refine aH (uD (o:=222) (n:=v62.length) rfl rfl (by repeat (first|exact trivial|refine⟨by first|rfl|exact(qC q65).symm|exact qC q65|simp,?_⟩)) (by repeat (first|exact trivial|refine⟨by first|rfl|exact(qC q65).symm|exact qC q65|simp,?_⟩))) ?_
       exact eF ⟨rfl,rfl,rfl,rfl,rfl,rfl,rfl,rfl,rfl,rfl,rfl,rfl,trivial⟩ ⟨rfl,⟨rfl,rfl⟩,rfl,⟨rfl,rfl⟩,rfl,⟨rfl,rfl⟩,rfl,⟨rfl,rfl⟩,trivial⟩
      have H:=bf h H
      refine wkz ?_
      cases H
      exact eF ⟨rfl,rfl,rfl,rfl,rfl,rfl,rfl,rfl,rfl,rfl,rfl,rfl,trivial⟩ ⟨rfl,⟨rfl,rfl⟩,rfl,⟨rfl,rfl⟩,rfl,⟨rfl,rfl⟩,rfl,⟨rfl,rfl⟩,trivial⟩
     refine wkz ?_
     cases H
     refine eA ?_
     exact eF ⟨rfl,rfl,rfl,rfl,rfl,rfl,rfl,rfl,rfl,rfl,rfl,rfl,trivial⟩ ⟨rfl,⟨rfl,rfl⟩,rfl,⟨rfl,rfl⟩,rfl,⟨rfl,rfl⟩,rfl,⟨rfl,rfl⟩,trivial⟩
    have H:=bf h H
    refine wkz ?_
    cases H
    refine et (λhq=>?_)
    cases hq
    refine wkz ?_
    exact eF ⟨rfl,rfl,rfl,rfl,rfl,rfl,rfl,rfl,rfl,rfl,trivial⟩ ⟨rfl,⟨rfl,rfl⟩,rfl,⟨rfl,rfl⟩,rfl,⟨rfl,rfl⟩,rfl,⟨rfl,rfl⟩,trivial⟩
   refine wkz ?_
   cases H
   refine eA ?_
   exact eF ⟨rfl,rfl,rfl,rfl,rfl,rfl,rfl,rfl,rfl,rfl,trivial⟩ ⟨rfl,⟨rfl,rfl⟩,rfl,⟨rfl,rfl⟩,rfl,⟨rfl,rfl⟩,rfl,⟨rfl,rfl⟩,trivial⟩
  have H:=bf h H
  refine wkz ?_
  cases H
  refine et (λhq=>?_)
  cases hq
  refine wkz ?_
  exact eF ⟨rfl,rfl,rfl,rfl,rfl,rfl,trivial⟩ ⟨rfl,⟨rfl,rfl⟩,rfl,⟨rfl,rfl⟩,rfl,⟨rfl,rfl⟩,rfl,⟨rfl,rfl⟩,trivial⟩
 refine wkz ?_
 refine aa H λv78 Hj H=>tO ⟨[(2,.v (.c (.p 220 0))),(3,.v (.c (.p 221 0)))],[(200,.var 148 [.d false (.l (v40.map eU8)),.d false (.i .i64 v41),.d false (.i .i64 v42)]),(220,.var 26 [.nil]),(221,.var 26 [.wn 222 v78.length]),(222,.cxo 222 158 3 v78 none)],223⟩ ?_ ?_
 .refine wkz ?_
  refine tN (λ(q:Int×List (Int×List Int))=>⟨[(2,.v (.c (.p 220 0))),(3,.v (.c (.p 221 0))),(4,tI (WR (2+r1.1))),(8,tI q.1)],[(200,.var 148 [.d false (.l (v40.map eU8)),.d false (.i .i64 v41),.d false (.i .i64 v42)]),(220,.var 26 [.nil]),(221,.var 26 [.wn 222 q.2.length]),(222,.cxo 222 158 3 q.2 none)],223⟩) Hj (eF ⟨rfl,rfl,rfl,rfl,rfl,rfl,rfl,rfl,trivial⟩ ⟨rfl,⟨rfl,rfl⟩,rfl,⟨rfl,rfl⟩,rfl,⟨rfl,rfl⟩,rfl,⟨rfl,rfl⟩,trivial⟩) ?_
  rintro⟨v66,v67⟩ o H
  try dsimp only
  refine wkz ?_
  refine o9 rfl (λh=>?_) (λh=>?_)
  .have H:=bt h H
   refine wkz ?_
   refine aa H λv84 Hj H=>tO ⟨[(2,.v (.c (.p 220 0))),(3,.v (.c (.p 221 0))),(4,tI (WR (2+r1.1))),(8,tI v66),(9,.v (.c (.w 223 v84.length)))],[(200,.var 148 [.d false (.l (v40.map eU8)),.d false (.i .i64 v41),.d false (.i .i64 v42)]),(220,.var 26 [.nil]),(221,.var 26 [.wn 222 v67.length]),(222,.cxo 222 158 3 v67 none),(223,.row 3 1 (v84.map eI) true true)],224⟩ ?_ ?_
   .refine wkz ?_
    refine tN (λ(q:Int×List Int)=>⟨[(2,.v (.c (.p 220 0))),(3,.v (.c (.p 221 0))),(4,tI (WR (2+r1.1))),(8,tI v66),(9,.v (.c (.w 223 q.2.length))),(10,tI q.1)],[(200,.var 148 [.d false (.l (v40.map eU8)),.d false (.i .i64 v41),.d false (.i .i64 v42)]),(220,.var 26 [.nil]),(221,.var 26 [.wn 222 v67.length]),(222,.cxo 222 158 3 v67 none),(223,.row 3 1 (q.2.map eI) true true)],224⟩) Hj (eF ⟨rfl,rfl,rfl,rfl,rfl,rfl,rfl,rfl,wn rfl (by first|rfl|simp),rfl,rfl,rfl,trivial⟩ ⟨rfl,⟨rfl,rfl⟩,rfl,⟨rfl,rfl⟩,rfl,⟨rfl,rfl⟩,rfl,⟨rfl,rfl⟩,rfl,⟨rfl,rfl⟩,trivial⟩) ?_
    rintro⟨v79,v80⟩ o H
    try dsimp only
    refine wkz ?_
    refine o9 rfl (λh=>?_) (λh=>?_)
    .have H:=bt h H
     refine wkz ?_
     refine aa H λx85 hx85 H=>vC rfl (CB hx85 rfl rfl rfl rfl) ?_
     refine wkz ?_
     refine vC rfl (olx (ixE hx85).2 rfl rfl rfl) ?_
     refine wkz ?_
     refine aa H λr86 q86 H=>vC rfl (ca rfl rfl rfl (Bv q86) trivial rfl rfl rfl rfl) ?_
     refine wkz ?_
     refine aa H λv87 Hj H=>wb ⟨[(2,.v (.c (.p 220 0))),(3,.v (.c (.p 221 0))),(4,tI (WR (2+r1.1))),(8,tI v66),(9,.v (.c (.w 223 v87.length))),(10,tI v79)],[(200,.var 148 [.d false (.l (v40.map eU8)),.d false (.i .i64 v41),.d false (.i .i64 v42)]),(220,.var 26 [.nil]),(221,.var 26 [.wn 222 v67.length]),(222,.cxo 222 158 3 v67 none),(223,.row 3 1 (v87.map eI) true true)],224⟩ ?_ ?_
     .have H:=Hj
      refine wkz ?_
      refine o9 rfl (λh=>?_) (λh=>?_)
      .have H:=bt h H
       refine wkz ?_
       obtain⟨h,H⟩:=rq H
       refine fK rfl (apT (enc:=eI) (ys:=v80) (zs:=[v79]) h) ?_
       refine wkz ?_
       cases H
       exact eF ⟨rfl,rfl,rfl,rfl,rfl,rfl,rfl,rfl,wn rfl (by first|rfl|simp),rfl,rfl,rfl,trivial⟩ ⟨rfl,⟨rfl,rfl⟩,rfl,⟨rfl,rfl⟩,rfl,⟨rfl,rfl⟩,rfl,⟨rfl,rfl⟩,rfl,⟨rfl,rfl⟩,trivial⟩
      have H:=bf h H
      refine wkz ?_
      cases H
      exact eF ⟨rfl,rfl,rfl,rfl,rfl,rfl,rfl,rfl,wn rfl (by first|rfl|simp),rfl,rfl,rfl,trivial⟩ ⟨rfl,⟨rfl,rfl⟩,rfl,⟨rfl,rfl⟩,rfl,⟨rfl,rfl⟩,rfl,⟨rfl,rfl⟩,rfl,⟨rfl,rfl⟩,trivial⟩
     refine wkz ?_
     cases H
     refine eA ?_
     exact eF ⟨rfl,rfl,rfl,rfl,rfl,rfl,rfl,rfl,wn rfl (by first|rfl|simp),rfl,rfl,rfl,trivial⟩ ⟨rfl,⟨rfl,rfl⟩,rfl,⟨rfl,rfl⟩,rfl,⟨rfl,rfl⟩,rfl,⟨rfl,rfl⟩,rfl,⟨rfl,rfl⟩,trivial⟩
    have H:=bf h H
    refine wkz ?_
    cases H
    refine et (λhq=>?_)
    cases hq
    refine wkz ?_
    exact eF ⟨rfl,rfl,rfl,rfl,rfl,rfl,rfl,rfl,wn rfl (by first|rfl|simp),rfl,trivial⟩ ⟨rfl,⟨rfl,rfl⟩,rfl,⟨rfl,rfl⟩,rfl,⟨rfl,rfl⟩,rfl,⟨rfl,rfl⟩,rfl,⟨rfl,rfl⟩,trivial⟩
   refine wkz ?_
   refine aa H λx88 hx88 H=>vC rfl (CB hx88 rfl rfl rfl rfl) ?_
   refine wkz ?_
   refine fK rfl (Kr (o:=222) (s:=223) (ys:=v84) rfl rfl rfl rfl rfl (ixE hx88).2 (.inl rfl) rfl rfl rfl rfl rfl rfl rfl) ?_
   refine wkz ?_
   cases H
   refine eA ?_
   refine aH (uD (o:=222) (n:=(v67.set (v66).toNat (x88.1,v84)).length) rfl rfl (by repeat (first|exact trivial|refine⟨by first|rfl|simp,?_⟩)) (by repeat (first|exact trivial|refine⟨by first|rfl|simp,?_⟩))) ?_
   exact eF ⟨rfl,rfl,rfl,rfl,rfl,rfl,rfl,rfl,trivial⟩ ⟨rfl,⟨rfl,rfl⟩,rfl,⟨rfl,rfl⟩,rfl,⟨rfl,rfl⟩,rfl,⟨rfl,rfl⟩,trivial⟩
  have H:=bf h H
  refine wkz ?_
  cases H
  refine et (λhq=>?_)
  cases hq
  refine wkz ?_
  exact eF ⟨rfl,rfl,rfl,rfl,trivial⟩ ⟨rfl,⟨rfl,rfl⟩,rfl,⟨rfl,rfl⟩,rfl,⟨rfl,rfl⟩,rfl,⟨rfl,rfl⟩,trivial⟩
 refine wkz ?_
 cases H
 refine clo_w (N:=85) ?_ hq
 exact eF ⟨rfl,rfl,trivial⟩ ⟨rfl,⟨rfl,rfl⟩,rfl,⟨rfl,rfl⟩,rfl,⟨rfl,rfl⟩,trivial⟩
theorem Pp (v:List (Int×List Int)):v.map RU=(v.map λe=>(⟨e.1,e.2⟩:eY)).map dL:=by rw[List.map_map];rfl
theorem EK {a0:bV} {r:aU×bV} (H:Ap a0=some r):FnV prog 137 [(200,.var 148 [.d false (.l (a0.fb.map eU8)),.d false (.i .i64 a0.fi),.d false (.i .i64 a0.fh)])] [.v (.c (.p 200 0))] [(200,.var 148 [.d false (.l (r.2.fb.map eU8)),.d false (.i .i64 r.2.fi),.d false (.i .i64 r.2.fh)])] (.v (.agg [.wn 210 r.1.aZ.length])) [(210,.rown 158 2 (r.1.aZ.map dL) true)]:=by
 obtain⟨⟨v,cu⟩,hX,H⟩:=ob H
 cases H
 obtain⟨c,hc,h⟩:=K1 hX (AQ:=vW 85 prog [ResultVar.cell 2 26] [(200,.var 148 [.d false (.l (cu.fb.map eU8)),.d false (.i .i64 cu.fi),.d false (.i .i64 cu.fh)])] (.v (.agg [.wn 210 (v.map λe=>(⟨e.1,e.2⟩:eY)).length])) [(210,.rown 158 2 ((v.map λe=>(⟨e.1,e.2⟩:eY)).map dL) true)]) (by
  refine bO (Nc (o:=222) rfl rfl rfl rfl rfl) ?_
  rw[Pp]
  refine bO (uD (o:=222) (n:=(v.map λe=>(⟨e.1,e.2⟩:eY)).length) rfl rfl (by repeat (first|exact trivial|refine⟨by first|rfl|simp,?_⟩)) (by repeat (first|exact trivial|refine⟨by first|rfl|simp,?_⟩))) ?_
  refine bO (Lt (p:=222) (q:=210) rfl rfl rfl rfl) ?_
  exact cV (.cons (.cell rfl rfl rfl) .nil) rfl (by first|rfl|simp) ⟨rfl,trivial⟩ ⟨rfl,trivial⟩)
 exact R8 func137 hc (by kernel_rfl) ntmps137 rfl rfl rfl (wc (CX (nx':=220) rfl) h)
end Go.AM
