/- A part. -/
import Derived.Test.YtmginjngmidkbaaGreatS2
set_option linter.unusedVariables false
open Option renaming bind->abU
open List renaming cons_ne_nil->abV,range->hV
namespace Go.AM
open Go.Proofs
open Tryz
attribute [local irreducible] AWN NS AWO AWR AWC DR ea gL
set_option maxRecDepth 100000
set_option maxHeartbeats 40000000
def Ev (r1:Int×bm):(Int×List Int×Int×Int×List Int)->Option (cq (Int×List Int×Int×Int×List Int) (List Int×Int×Int×List Int))
 |(v2,v3,v4,v5,v6)=>bif ltB v2 (WR (2+r1.1)) then(abU (cI (⟨v3,v4,v5⟩:bm) 2) λr12=>bif c8 32 (v6++[r12.1]).length then(some (.next (WR (v2+1),r12.2.fb,r12.2.fi,r12.2.fh,(v6++[r12.1])))) else none) else(some (.done (v3,v4,v5,v6)))
def Ex (v13:Int):(Int×List Int×Int×Int×List (Int×List Int))->Option (cq (Int×List Int×Int×Int×List (Int×List Int)) (List Int×Int×Int×List (Int×List Int)))
 |(v43,v44,v45,v46,v47)=>bif ltB v43 v13 then(abU (bif eqB v43 (WR (v13-1)) then(abU (i9 (⟨v44,v45,v46⟩:bm) 5) λr62=>bif !r62.1 then(some (true,r62.2.fb,r62.2.fi,r62.2.fh)) else(abU (i9 r62.2 4) λr63=>some (r63.1,r63.2.fb,r63.2.fi,r63.2.fh))) else(abU (i9 (⟨v44,v45,v46⟩:bm) 4) λr64=>some (r64.1,r64.2.fb,r64.2.fi,r64.2.fh))) λ((v58,v59,v60,v61):Bool×List Int×Int×Int)=>abU (bif v58 then(abU (vJ v47 v43 v13) λr65=>some r65) else(some v47)) λ(v62:List (Int×List Int))=>some (.next (WR (v43+1),v59,v60,v61,v62))) else(some (.done (v44,v45,v46,v47)))
def Ew (r1:Int×bm):(Int×List Int×Int×Int×List (Int×List Int))->Option (cq (Int×List Int×Int×Int×List (Int×List Int)) (List Int×Int×Int×List (Int×List Int)))
 |(v13,v14,v15,v16,v17)=>bif ltB v13 (WR (2+r1.1)) then(abU (iter (Ex v13) FU (0,v14,v15,v16,v17)) λ((v55,v56,v57,v58):List Int×Int×Int×List (Int×List Int))=>some (.next (WR (v13+1),v55,v56,v57,v58))) else(some (.done (v14,v15,v16,v17)))
def Ez (r1:Int×bm) (v66:Int) (v67:List (Int×List Int)):(Int×List Int)->Option (cq (Int×List Int) (List Int))
 |(v79,v80)=>bif ltB v79 (WR (2+r1.1)) then(abU (ix v67 v66) λx85=>abU (CJ x85.2 v79) λr86=>abU (bif r86 then(bif c8 8 (v80++[v79]).length then(some (v80++[v79])) else none) else(some v80)) λ(v87:List Int)=>some (.next (WR (v79+1),v87))) else(some (.done v80))
def Ey (r1:Int×bm):(Int×List (Int×List Int))->Option (cq (Int×List (Int×List Int)) (List (Int×List Int)))
 |(v66,v67)=>bif ltB v66 (WR (2+r1.1)) then(abU (iter (Ez r1 v66 v67) FU (0,([]:List Int))) λ(v84:List Int)=>abU (ix v67 v66) λx88=>some (.next (WR (v66+1),(v67.set (v66).toNat (x88.1,v84))))) else(some (.done v67))
def z6 (a0:bm):Option (List (Int×List Int)×bm):=
 abU (cI a0 4) λr1=>abU (iter (Ev r1) FU (0,r1.2.fb,r1.2.fi,r1.2.fh,([]:List Int))) λ((v8,v9,v10,v11):List Int×Int×Int×List Int)=>abU (iter (Ew r1) FU (1,v8,v9,v10,v11.map λa=>(a,[]))) λ((v40,v41,v42,v43):List Int×Int×Int×List (Int×List Int))=>abU (iter (Ey r1) FU (0,v43)) λ(v78:List (Int×List Int))=>some (v78,(⟨v40,v41,v42⟩:bm))
def CI (a0:bm):Option (aS×bm):=
 abU (z6 a0) λr=>some ((⟨r.1.map λe=>(⟨e.1,e.2⟩:fr)⟩:aS),r.2)
theorem Nl {a0:bm} {r:List (Int×List Int)×bm} (H:z6 a0=some r) {AQ:Exit->St->Prop} [Clo 85 AQ] (hq:AQ .ret ⟨[(2,.v (.c (.p 220 0)))],[(200,.var 135 [.d false (.l (r.2.fb.map eU8)),.d false (.i .i64 r.2.fi),.d false (.i .i64 r.2.fh)]),(220,.var 26 [.wn 222 r.1.length]),(222,.cxo 222 147 3 r.1 none)],223⟩):
 ∃c,Tryz.f176.body=some c/\AWC prog 85 c ⟨[(0,.v (.c (.p 200 0)))],[(200,.var 135 [.d false (.l (a0.fb.map eU8)),.d false (.i .i64 a0.fi),.d false (.i .i64 a0.fh)])],220⟩ AQ:=by
 refine⟨_,rfl,?_⟩
 refine wkz ?_
 refine aa H λr1 q1 H=>fG rfl (cw (o:=200) (cp q1) rfl rfl rfl rfl rfl rfl trivial rfl rfl rfl rfl) ?_
 refine wkz ?_
 obtain⟨⟨v8,v9,v10,v11⟩,Hj,H⟩:=ob H
 refine u7 ⟨[(0,.v (.c (.p 200 0))),(2,.v (.c (.p 220 0))),(3,.v (.c (.p 221 0))),(4,tI (WR (2+r1.1)))],[(200,.var 135 [.d false (.l (v8.map eU8)),.d false (.i .i64 v9),.d false (.i .i64 v10)]),(220,.var 26 [.nil]),(221,.var 26 [.wn 222 v11.length]),(222,.rown 147 2 (v11.map YS) true)],223⟩ ?_ ?_
 .refine wkz ?_
  refine u6 (λ(q:Int×List Int×Int×Int×List Int)=>⟨[(0,.v (.c (.p 200 0))),(2,.v (.c (.p 220 0))),(3,.v (.c (.p 221 0))),(4,tI (WR (2+r1.1))),(5,tI q.1)],[(200,.var 135 [.d false (.l (q.2.1.map eU8)),.d false (.i .i64 q.2.2.1),.d false (.i .i64 q.2.2.2.1)]),(220,.var 26 [.nil]),(221,.var 26 [.wn 222 q.2.2.2.2.length]),(222,.rown 147 2 (q.2.2.2.2.map YS) true)],223⟩) Hj (by refine aq (dY (o:=221) (j:=0) 147 2 true rfl rfl rfl rfl rfl) ?_;refine aq (vS (o:=222) (n:=([]:List Int).length) rfl rfl (by repeat (first|exact trivial|refine⟨by first|rfl|simp,?_⟩)) (by repeat (first|exact trivial|refine⟨by first|rfl|simp,?_⟩))) ?_;exact eV ⟨rfl,rfl,rfl,rfl,rfl,rfl,rfl,rfl,rfl,rfl,trivial⟩ ⟨rfl,⟨rfl,rfl⟩,rfl,⟨rfl,rfl⟩,rfl,⟨rfl,rfl⟩,rfl,⟨rfl,rfl⟩,trivial⟩) ?_
  rintro⟨v2,v3,v4,v5,v6⟩ o H
  try dsimp only
  refine wkz ?_
  refine p5 rfl (λh=>?_) (λh=>?_)
  .have H:=bt h H
   refine wkz ?_
   refine nO [0,1,2,3,4,5,6,7,8] Try.follows (by kernel_rfl) (by kernel_rfl) rfl ?_
   refine wkz ?_
   refine aa H λr12 q12 H=>uF rfl (cwx (o:=200) (cp q12) rfl rfl rfl rfl rfl rfl trivial rfl rfl rfl rfl) ?_
   refine iS rfl (bdk rfl rfl rfl rfl) ?_
   refine wkz ?_
   obtain⟨h,H⟩:=rq H
   refine Gd (by kernel_rfl) rfl (by kernel_rfl) b8 (gG rfl (EI (enc:=YS) (ys:=v6) (zs:=[r12.1]) h (by first|exact abV _ _|simp) rfl (λ_=>rfl) (by first|rfl|simp) (.w rfl (by first|rfl|exact lm _|simp)) rfl rfl rfl rfl rfl rfl rfl rfl rfl rfl)) b8 rfl ?_
   refine wkz ?_
   refine uF rfl (spx 100015 rfl rfl rfl rfl rfl rfl rfl rfl) ?_
   refine wkz ?_
   cases H
   refine uQ ?_
   refine aq (ee 222 rfl rfl rfl) ?_
   exact eV ⟨rfl,rfl,rfl,rfl,rfl,rfl,rfl,rfl,rfl,rfl,trivial⟩ ⟨rfl,⟨rfl,rfl⟩,rfl,⟨rfl,rfl⟩,rfl,⟨rfl,rfl⟩,rfl,⟨rfl,rfl⟩,trivial⟩
  have H:=bf h H
  refine wkz ?_
  cases H
  refine Mp (λhq=>?_)
  cases hq
  refine wkz ?_
  exact eV ⟨rfl,rfl,rfl,rfl,rfl,rfl,rfl,rfl,trivial⟩ ⟨rfl,⟨rfl,rfl⟩,rfl,⟨rfl,rfl⟩,rfl,⟨rfl,rfl⟩,rfl,⟨rfl,rfl⟩,trivial⟩
 refine wkz ?_
 refine nP (XZ (o:=222) (nt:=3) (al:=v11) rfl rfl) ?_
 refine nP (vS (o:=222) (n:=(v11.map λa=>((a,[]):Int×List Int)).length) rfl rfl (by repeat (first|exact trivial|refine⟨by first|rfl|simp,?_⟩)) (by repeat (first|exact trivial|refine⟨by first|rfl|simp,?_⟩))) ?_
 obtain⟨⟨v40,v41,v42,v43⟩,Hj,H⟩:=ob H
 refine u7 ⟨[(2,.v (.c (.p 220 0))),(3,.v (.c (.p 221 0))),(4,tI (WR (2+r1.1)))],[(200,.var 135 [.d false (.l (v40.map eU8)),.d false (.i .i64 v41),.d false (.i .i64 v42)]),(220,.var 26 [.nil]),(221,.var 26 [.wn 222 v43.length]),(222,.cxo 222 147 3 v43 none)],223⟩ ?_ ?_
 .refine wkz ?_
  refine u6 (λ(q:Int×List Int×Int×Int×List (Int×List Int))=>⟨[(0,.v (.c (.p 200 0))),(2,.v (.c (.p 220 0))),(3,.v (.c (.p 221 0))),(4,tI (WR (2+r1.1))),(6,tI q.1)],[(200,.var 135 [.d false (.l (q.2.1.map eU8)),.d false (.i .i64 q.2.2.1),.d false (.i .i64 q.2.2.2.1)]),(220,.var 26 [.nil]),(221,.var 26 [.wn 222 q.2.2.2.2.length]),(222,.cxo 222 147 3 q.2.2.2.2 none)],223⟩) Hj (eV ⟨rfl,rfl,rfl,rfl,rfl,rfl,rfl,rfl,rfl,rfl,trivial⟩ ⟨rfl,⟨rfl,rfl⟩,rfl,⟨rfl,rfl⟩,rfl,⟨rfl,rfl⟩,rfl,⟨rfl,rfl⟩,trivial⟩) ?_
  rintro⟨v13,v14,v15,v16,v17⟩ o H
  try dsimp only
  refine wkz ?_
  refine p5 rfl (λh=>?_) (λh=>?_)
  .have H:=bt h H
   refine wkz ?_
   obtain⟨⟨v55,v56,v57,v58⟩,Hj,H⟩:=ob H
   refine u7 ⟨[(0,.v (.c (.p 200 0))),(2,.v (.c (.p 220 0))),(3,.v (.c (.p 221 0))),(4,tI (WR (2+r1.1))),(6,tI v13)],[(200,.var 135 [.d false (.l (v55.map eU8)),.d false (.i .i64 v56),.d false (.i .i64 v57)]),(220,.var 26 [.nil]),(221,.var 26 [.wn 222 v58.length]),(222,.cxo 222 147 3 v58 none)],223⟩ ?_ ?_
   .refine wkz ?_
    refine u6 (λ(q:Int×List Int×Int×Int×List (Int×List Int))=>⟨[(0,.v (.c (.p 200 0))),(2,.v (.c (.p 220 0))),(3,.v (.c (.p 221 0))),(4,tI (WR (2+r1.1))),(6,tI v13),(7,tI q.1)],[(200,.var 135 [.d false (.l (q.2.1.map eU8)),.d false (.i .i64 q.2.2.1),.d false (.i .i64 q.2.2.2.1)]),(220,.var 26 [.nil]),(221,.var 26 [.wn 222 q.2.2.2.2.length]),(222,.cxo 222 147 3 q.2.2.2.2 none)],223⟩) Hj (eV ⟨rfl,rfl,rfl,rfl,rfl,rfl,rfl,rfl,rfl,rfl,rfl,rfl,trivial⟩ ⟨rfl,⟨rfl,rfl⟩,rfl,⟨rfl,rfl⟩,rfl,⟨rfl,rfl⟩,rfl,⟨rfl,rfl⟩,trivial⟩) ?_
    rintro⟨v43,v44,v45,v46,v47⟩ o H
    try dsimp only
    refine wkz ?_
    refine p5 rfl (λh=>?_) (λh=>?_)
    .have H:=bt h H
     refine wkz ?_
     obtain⟨⟨v58,v59,v60,v61⟩,Hj,H⟩:=ob H
     refine LJ ⟨[(0,.v (.c (.p 200 0))),(2,.v (.c (.p 220 0))),(3,.v (.c (.p 221 0))),(4,tI (WR (2+r1.1))),(6,tI v13),(7,tI v43),(50,tB v58)],[(200,.var 135 [.d false (.l (v59.map eU8)),.d false (.i .i64 v60),.d false (.i .i64 v61)]),(220,.var 26 [.nil]),(221,.var 26 [.wn 222 v47.length]),(222,.cxo 222 147 3 v47 none)],223⟩ ?_ ?_
     .have H:=Hj
      refine wkz ?_
      refine g2 rfl rfl rfl (λh=>?_) (λh=>?_)
      .have H:=bt h H
       refine wkz ?_
       refine aa H λr62 q62 H=>mh rfl rfl (dx rfl) rfl (cw (o:=200) (iQ q62) rfl rfl rfl rfl rfl rfl trivial rfl rfl rfl rfl) ?_
       refine wkz ?_
       refine g2 rfl rfl rfl (λh=>?_) (λh=>?_)
       .have H:=bt h H
        refine wkz ?_
        cases H
        exact eV ⟨rfl,rfl,rfl,rfl,rfl,rfl,rfl,rfl,rfl,rfl,rfl,rfl,rfl,rfl,trivial⟩ ⟨rfl,⟨rfl,rfl⟩,rfl,⟨rfl,rfl⟩,rfl,⟨rfl,rfl⟩,rfl,⟨rfl,rfl⟩,trivial⟩
       have H:=bf h H
       refine wkz ?_
       refine aa H λr63 q63 H=>mh rfl rfl (dx rfl) rfl (cw (o:=200) (iQ q63) rfl rfl rfl rfl rfl rfl trivial rfl rfl rfl rfl) ?_
       refine wkz ?_
       cases H
       exact eV ⟨rfl,rfl,rfl,rfl,rfl,rfl,rfl,rfl,rfl,rfl,rfl,rfl,rfl,rfl,trivial⟩ ⟨rfl,⟨rfl,rfl⟩,rfl,⟨rfl,rfl⟩,rfl,⟨rfl,rfl⟩,rfl,⟨rfl,rfl⟩,trivial⟩
      have H:=bf h H
      refine wkz ?_
      refine aa H λr64 q64 H=>mh rfl rfl (dx rfl) rfl (cw (o:=200) (iQ q64) rfl rfl rfl rfl rfl rfl trivial rfl rfl rfl rfl) ?_
      refine wkz ?_
      cases H
      exact eV ⟨rfl,rfl,rfl,rfl,rfl,rfl,rfl,rfl,rfl,rfl,rfl,rfl,rfl,rfl,trivial⟩ ⟨rfl,⟨rfl,rfl⟩,rfl,⟨rfl,rfl⟩,rfl,⟨rfl,rfl⟩,rfl,⟨rfl,rfl⟩,trivial⟩
     refine wkz ?_
     refine aa H λv62 Hj H=>xZ ⟨[(0,.v (.c (.p 200 0))),(2,.v (.c (.p 220 0))),(3,.v (.c (.p 221 0))),(4,tI (WR (2+r1.1))),(6,tI v13),(7,tI v43)],[(200,.var 135 [.d false (.l (v59.map eU8)),.d false (.i .i64 v60),.d false (.i .i64 v61)]),(220,.var 26 [.nil]),(221,.var 26 [.wn 222 v62.length]),(222,.cxo 222 147 3 v62 none)],223⟩ ?_ ?_
     .have H:=Hj
      refine wkz ?_
      refine p5 rfl (λh=>?_) (λh=>?_)
      .have H:=bt h H
       refine wkz ?_
       obtain⟨r65,q65,H⟩:=ob H
       obtain⟨cJ,hcJ,hJ⟩:=Nm (fb:=v59.map eU8) (fi:=v60) (fh:=v61) q65 rfl
       refine fG rfl (o_inl (m:=[(200,200),(202,220),(203,221),(222,222)]) (m':=[(200,200),(202,220),(203,221),(222,222)]) (nx':=223) func249 hcJ (by kernel_rfl) ntmps249 rfl hJ rfl rfl rfl rfl rfl rfl rfl rfl rfl rfl rfl) ?_
       refine wkz ?_
       cases H
       refine aq (vS (o:=222) (n:=v62.length) rfl rfl (by repeat (first|exact trivial|refine⟨by first|rfl|exact(rO q65).symm|exact rO q65|simp,?_⟩)) (by repeat (first|exact trivial|refine⟨by first|rfl|exact(rO q65).symm|exact rO q65|simp,?_⟩))) ?_
       exact eV ⟨rfl,rfl,rfl,rfl,rfl,rfl,rfl,rfl,rfl,rfl,rfl,rfl,trivial⟩ ⟨rfl,⟨rfl,rfl⟩,rfl,⟨rfl,rfl⟩,rfl,⟨rfl,rfl⟩,rfl,⟨rfl,rfl⟩,trivial⟩
      have H:=bf h H
      refine wkz ?_
      cases H
      exact eV ⟨rfl,rfl,rfl,rfl,rfl,rfl,rfl,rfl,rfl,rfl,rfl,rfl,trivial⟩ ⟨rfl,⟨rfl,rfl⟩,rfl,⟨rfl,rfl⟩,rfl,⟨rfl,rfl⟩,rfl,⟨rfl,rfl⟩,trivial⟩
     refine wkz ?_
     cases H
     refine uQ ?_
     exact eV ⟨rfl,rfl,rfl,rfl,rfl,rfl,rfl,rfl,rfl,rfl,rfl,rfl,trivial⟩ ⟨rfl,⟨rfl,rfl⟩,rfl,⟨rfl,rfl⟩,rfl,⟨rfl,rfl⟩,rfl,⟨rfl,rfl⟩,trivial⟩
    have H:=bf h H
    refine wkz ?_
    cases H
    refine Mp (λhq=>?_)
    cases hq
    refine wkz ?_
    exact eV ⟨rfl,rfl,rfl,rfl,rfl,rfl,rfl,rfl,rfl,rfl,trivial⟩ ⟨rfl,⟨rfl,rfl⟩,rfl,⟨rfl,rfl⟩,rfl,⟨rfl,rfl⟩,rfl,⟨rfl,rfl⟩,trivial⟩
   refine wkz ?_
   cases H
   refine uQ ?_
   exact eV ⟨rfl,rfl,rfl,rfl,rfl,rfl,rfl,rfl,rfl,rfl,trivial⟩ ⟨rfl,⟨rfl,rfl⟩,rfl,⟨rfl,rfl⟩,rfl,⟨rfl,rfl⟩,rfl,⟨rfl,rfl⟩,trivial⟩
  have H:=bf h H
  refine wkz ?_
  cases H
  refine Mp (λhq=>?_)
  cases hq
  refine wkz ?_
  exact eV ⟨rfl,rfl,rfl,rfl,rfl,rfl,trivial⟩ ⟨rfl,⟨rfl,rfl⟩,rfl,⟨rfl,rfl⟩,rfl,⟨rfl,rfl⟩,rfl,⟨rfl,rfl⟩,trivial⟩
 refine wkz ?_
 refine aa H λv78 Hj H=>u7 ⟨[(2,.v (.c (.p 220 0))),(3,.v (.c (.p 221 0)))],[(200,.var 135 [.d false (.l (v40.map eU8)),.d false (.i .i64 v41),.d false (.i .i64 v42)]),(220,.var 26 [.nil]),(221,.var 26 [.wn 222 v78.length]),(222,.cxo 222 147 3 v78 none)],223⟩ ?_ ?_
 .refine wkz ?_
  refine u6 (λ(q:Int×List (Int×List Int))=>⟨[(2,.v (.c (.p 220 0))),(3,.v (.c (.p 221 0))),(4,tI (WR (2+r1.1))),(8,tI q.1)],[(200,.var 135 [.d false (.l (v40.map eU8)),.d false (.i .i64 v41),.d false (.i .i64 v42)]),(220,.var 26 [.nil]),(221,.var 26 [.wn 222 q.2.length]),(222,.cxo 222 147 3 q.2 none)],223⟩) Hj (eV ⟨rfl,rfl,rfl,rfl,rfl,rfl,rfl,rfl,trivial⟩ ⟨rfl,⟨rfl,rfl⟩,rfl,⟨rfl,rfl⟩,rfl,⟨rfl,rfl⟩,rfl,⟨rfl,rfl⟩,trivial⟩) ?_
  rintro⟨v66,v67⟩ o H
  try dsimp only
  refine wkz ?_
  refine p5 rfl (λh=>?_) (λh=>?_)
  .have H:=bt h H
   refine wkz ?_
   refine aa H λv84 Hj H=>u7 ⟨[(2,.v (.c (.p 220 0))),(3,.v (.c (.p 221 0))),(4,tI (WR (2+r1.1))),(8,tI v66),(9,.v (.c (.w 223 v84.length)))],[(200,.var 135 [.d false (.l (v40.map eU8)),.d false (.i .i64 v41),.d false (.i .i64 v42)]),(220,.var 26 [.nil]),(221,.var 26 [.wn 222 v67.length]),(222,.cxo 222 147 3 v67 none),(223,.row 3 1 (v84.map eI) true true)],224⟩ ?_ ?_
   .refine wkz ?_
    refine u6 (λ(q:Int×List Int)=>⟨[(2,.v (.c (.p 220 0))),(3,.v (.c (.p 221 0))),(4,tI (WR (2+r1.1))),(8,tI v66),(9,.v (.c (.w 223 q.2.length))),(10,tI q.1)],[(200,.var 135 [.d false (.l (v40.map eU8)),.d false (.i .i64 v41),.d false (.i .i64 v42)]),(220,.var 26 [.nil]),(221,.var 26 [.wn 222 v67.length]),(222,.cxo 222 147 3 v67 none),(223,.row 3 1 (q.2.map eI) true true)],224⟩) Hj (eV ⟨rfl,rfl,rfl,rfl,rfl,rfl,rfl,rfl,wn rfl (by first|rfl|simp),rfl,rfl,rfl,trivial⟩ ⟨rfl,⟨rfl,rfl⟩,rfl,⟨rfl,rfl⟩,rfl,⟨rfl,rfl⟩,rfl,⟨rfl,rfl⟩,rfl,⟨rfl,rfl⟩,trivial⟩) ?_
    rintro⟨v79,v80⟩ o H
    try dsimp only
    refine wkz ?_
    refine p5 rfl (λh=>?_) (λh=>?_)
    .have H:=bt h H
     refine wkz ?_
     refine aa H λx85 hx85 H=>xr rfl (qy hx85 rfl rfl rfl rfl) ?_
     refine wkz ?_
     refine xr rfl (olx (ixE hx85).2 rfl rfl rfl) ?_
     refine wkz ?_
     refine aa H λr86 q86 H=>xr rfl (ca rfl rfl rfl (D3 q86) trivial rfl rfl rfl rfl) ?_
     refine wkz ?_
     refine aa H λv87 Hj H=>xZ ⟨[(2,.v (.c (.p 220 0))),(3,.v (.c (.p 221 0))),(4,tI (WR (2+r1.1))),(8,tI v66),(9,.v (.c (.w 223 v87.length))),(10,tI v79)],[(200,.var 135 [.d false (.l (v40.map eU8)),.d false (.i .i64 v41),.d false (.i .i64 v42)]),(220,.var 26 [.nil]),(221,.var 26 [.wn 222 v67.length]),(222,.cxo 222 147 3 v67 none),(223,.row 3 1 (v87.map eI) true true)],224⟩ ?_ ?_
     .have H:=Hj
      refine wkz ?_
      refine p5 rfl (λh=>?_) (λh=>?_)
      .have H:=bt h H
       refine wkz ?_
       obtain⟨h,H⟩:=rq H
       refine fG rfl (apT (enc:=eI) (ys:=v80) (zs:=[v79]) h) ?_
       refine wkz ?_
       cases H
       exact eV ⟨rfl,rfl,rfl,rfl,rfl,rfl,rfl,rfl,wn rfl (by first|rfl|simp),rfl,rfl,rfl,trivial⟩ ⟨rfl,⟨rfl,rfl⟩,rfl,⟨rfl,rfl⟩,rfl,⟨rfl,rfl⟩,rfl,⟨rfl,rfl⟩,rfl,⟨rfl,rfl⟩,trivial⟩
      have H:=bf h H
      refine wkz ?_
      cases H
      exact eV ⟨rfl,rfl,rfl,rfl,rfl,rfl,rfl,rfl,wn rfl (by first|rfl|simp),rfl,rfl,rfl,trivial⟩ ⟨rfl,⟨rfl,rfl⟩,rfl,⟨rfl,rfl⟩,rfl,⟨rfl,rfl⟩,rfl,⟨rfl,rfl⟩,rfl,⟨rfl,rfl⟩,trivial⟩
     refine wkz ?_
     cases H
     refine uQ ?_
     exact eV ⟨rfl,rfl,rfl,rfl,rfl,rfl,rfl,rfl,wn rfl (by first|rfl|simp),rfl,rfl,rfl,trivial⟩ ⟨rfl,⟨rfl,rfl⟩,rfl,⟨rfl,rfl⟩,rfl,⟨rfl,rfl⟩,rfl,⟨rfl,rfl⟩,rfl,⟨rfl,rfl⟩,trivial⟩
    have H:=bf h H
    refine wkz ?_
    cases H
    refine Mp (λhq=>?_)
    cases hq
    refine wkz ?_
    exact eV ⟨rfl,rfl,rfl,rfl,rfl,rfl,rfl,rfl,wn rfl (by first|rfl|simp),rfl,trivial⟩ ⟨rfl,⟨rfl,rfl⟩,rfl,⟨rfl,rfl⟩,rfl,⟨rfl,rfl⟩,rfl,⟨rfl,rfl⟩,rfl,⟨rfl,rfl⟩,trivial⟩
   refine wkz ?_
   refine aa H λx88 hx88 H=>xr rfl (qy hx88 rfl rfl rfl rfl) ?_
   refine wkz ?_
   refine fG rfl (MJ (o:=222) (s:=223) (ys:=v84) rfl rfl rfl rfl rfl (ixE hx88).2 (.inl rfl) rfl rfl rfl rfl rfl rfl rfl) ?_
   refine wkz ?_
   cases H
   refine uQ ?_
   refine aq (vS (o:=222) (n:=(v67.set (v66).toNat (x88.1,v84)).length) rfl rfl (by repeat (first|exact trivial|refine⟨by first|rfl|simp,?_⟩)) (by repeat (first|exact trivial|refine⟨by first|rfl|simp,?_⟩))) ?_
   exact eV ⟨rfl,rfl,rfl,rfl,rfl,rfl,rfl,rfl,trivial⟩ ⟨rfl,⟨rfl,rfl⟩,rfl,⟨rfl,rfl⟩,rfl,⟨rfl,rfl⟩,rfl,⟨rfl,rfl⟩,trivial⟩
  have H:=bf h H
  refine wkz ?_
  cases H
  refine Mp (λhq=>?_)
  cases hq
  refine wkz ?_
  exact eV ⟨rfl,rfl,rfl,rfl,trivial⟩ ⟨rfl,⟨rfl,rfl⟩,rfl,⟨rfl,rfl⟩,rfl,⟨rfl,rfl⟩,rfl,⟨rfl,rfl⟩,trivial⟩
 refine wkz ?_
 cases H
 refine clo_w (N:=85) ?_ hq
 exact eV ⟨rfl,rfl,trivial⟩ ⟨rfl,⟨rfl,rfl⟩,rfl,⟨rfl,rfl⟩,rfl,⟨rfl,rfl⟩,trivial⟩
theorem Rf (v:List (Int×List Int)):v.map TR=(v.map λe=>(⟨e.1,e.2⟩:fr)).map dy:=by rw[List.map_map];rfl
theorem HB {a0:bm} {r:aS×bm} (H:CI a0=some r):FnV prog 176 [(200,.var 135 [.d false (.l (a0.fb.map eU8)),.d false (.i .i64 a0.fi),.d false (.i .i64 a0.fh)])] [.v (.c (.p 200 0))] [(200,.var 135 [.d false (.l (r.2.fb.map eU8)),.d false (.i .i64 r.2.fi),.d false (.i .i64 r.2.fh)])] (.v (.agg [.wn 210 r.1.aX.length])) [(210,.rown 147 2 (r.1.aX.map dy) true)]:=by
 obtain⟨⟨v,cu⟩,hX,H⟩:=ob H
 cases H
 obtain⟨c,hc,h⟩:=Nl hX (AQ:=xU 85 prog [ResultVar.cell 2 26] [(200,.var 135 [.d false (.l (cu.fb.map eU8)),.d false (.i .i64 cu.fi),.d false (.i .i64 cu.fh)])] (.v (.agg [.wn 210 (v.map λe=>(⟨e.1,e.2⟩:fr)).length])) [(210,.rown 147 2 ((v.map λe=>(⟨e.1,e.2⟩:fr)).map dy) true)]) (by
  refine co (Pj (o:=222) rfl rfl rfl rfl rfl) ?_
  rw[Rf]
  refine co (vS (o:=222) (n:=(v.map λe=>(⟨e.1,e.2⟩:fr)).length) rfl rfl (by repeat (first|exact trivial|refine⟨by first|rfl|simp,?_⟩)) (by repeat (first|exact trivial|refine⟨by first|rfl|simp,?_⟩))) ?_
  refine co (NK (p:=222) (q:=210) rfl rfl rfl rfl) ?_
  exact cd (.cons (.cell rfl rfl rfl) .nil) rfl (by first|rfl|simp) ⟨rfl,trivial⟩ ⟨rfl,trivial⟩)
 exact T1 func176 hc (by kernel_rfl) ntmps176 rfl rfl rfl (nP (CZ (nx':=220) rfl) h)
def tf:(Int×List aP×bm)->Option (cq (Int×List aP×bm) (List aP×bm))
 |(v2,v6,v7)=>bif ltB 0 v2 then(abU (Bt v7) λr15=>abU (cI r15.2 20) λr16=>bif c8 32 (v6++[(⟨(⟨1,v2⟩:dD),r15.1,r16.1⟩:aP)]).length then(some (.next (WR (v2-1),(v6++[(⟨(⟨1,v2⟩:dD),r15.1,r16.1⟩:aP)]),r16.2))) else none) else(some (.done (v6,v7)))
def mV (a0:bm):Option (List aP×bm):=
 abU (cI a0 3) λr1=>abU (iter (tf) FU (WR (1+r1.1),([]:List aP),r1.2)) λ((v13,v14):List aP×bm)=>some (v13,v14)
theorem uq {a0:bm} {r:List aP×bm} (H:mV a0=some r):FnW prog 177 (.var 135 (kM [.f] (ci a0))) [tP 200] (.var 135 (kM [.f] (ci r.2))) [.c (.own 62 4 (r.1.map cQ) r.1.length)]:=by
 refine fW func177 ntmps177 ?_
 refine aa H λr1 q1 H=>sA (cw (o:=200) (cp q1)) ?_
 obtain⟨⟨v13,v14⟩,Hj,H⟩:=ob H
 refine jB ⟨[(3,.v (.c (.w 210 v13.length)))],[(200,.var 135 (kM [.f] (ci v14))),(210,w62 v13)],211⟩ ?_ ?_
 .refine iT Hj (λq=>⟨[(0,tP 200),(3,.v (.c (.w 210 q.2.1.length))),(4,tI q.1)],[(200,.var 135 (kM [.f] (ci q.2.2))),(210,w62 q.2.1)],211⟩) ?_
  rintro⟨v2,v6,v7⟩ o H
  refine ad ?_
  refine cC H ?_ ?_<;>intro H
  .refine aa H λr15 q15 H=>sA (cw (o:=200) (Nr q15)) ?_
   refine aa H λr16 q16 H=>sA (cw (o:=200) (cp q16)) ?_
   obtain⟨h,H⟩:=rq H
   refine sA (apT (enc:=cQ) (ys:=v6) (zs:=[(⟨(⟨1,v2⟩:dD),r15.1,r16.1⟩:aP)]) h) ?_
   exact aN H
  exact aE H
 cases H
 exact f4
def mD (a0:ah) (a1:List Int):Option (ah×Bool):=
 abU (ja a0) λr1=>abU (bif leB 24 (a0.aM.length:Int) then(some true) else(some (ltB 60 (a1.length:Int)))) λ(v2:Bool)=>bif v2 then(some (r1,false)) else(abU (HF a1) λr3=>bif c8 24 (r1.aM++[r3]).length then(some ({r1 with aM:=(r1.aM++[r3])},true)) else none)
theorem xJ {a0:ah} {a1:List Int} {r:ah×Bool} (H:mD a0 a1=some r):Fn prog 178 [.agg (bU a0),aL (a1.map eU8)] [.agg (qM [.o,.o,.o] (ct r.1)),.c (.d (.b r.2))]:=by
 refine fI func178 ntmps178 ?_
 refine aa H λr1 q1 H=>nA (ca (hF:=iK q1)) ?_
 refine aa H λv2 Hj H=>jR ⟨[(1,.v (.c (.d false (.l (a1.map eU8))))),(4,tP 1),(6,tP 5),(17,tB v2)],(oM [.w 2,.w 3,.w 4] 5 75 (ct r1)++[(1,.var 75 (kM [.z,.z,.z] (ct rZ)))]),6⟩ ?_ ?_
 .exact az Hj
 refine cC H ?_ ?_<;>intro H
 .exact ao H
 refine zI (hV 8) ?_
 refine aa H λr3 q3 H=>zA (ca (hF:=(O3 q3).frzs (by repeat (first|exact trivial|refine⟨?_,?_⟩|exact lm _|rfl)))) ?_
 obtain⟨h,H⟩:=rq H
 refine zB b8 (gG rfl (apT (enc:=da) (ys:=r1.aM) (zs:=[r3]) h)) b8 ?_
 refine wA (spx 100076) ?_
 exact ao H
def s5 (a0:aJ):Option a9:=
 abU (kv a0) λr1=>some (⟨r1,([]:List aD)⟩:a9)
theorem w8 {a0:aJ} {r:a9} (H:s5 a0=some r):Fn prog 252 [.agg (cS a0)] [.agg (qM [.o,.o,.o] (cf r))]:=by
 refine fI func252 ntmps252 ?_
 refine aa H λr1 q1 H=>nA (ca (hF:=jV q1)) ?_
 cases H
 refine du (wB 4 (([]:List aD).length)) ?_
 exact dW
def uj (a0:ab):(Int×List aJ)->Option (cq (Int×List aJ) (List aJ))
 |(v2,v3)=>bif ltB v2 (a0.av.length:Int) then(abU (ix a0.av v2) λx7=>abU (kv x7) λr8=>bif c8 144 (v3++[r8]).length then(some (.next (WR (v2+1),(v3++[r8])))) else none) else(some (.done v3))
def uk (a0:ab):(Int×List ah)->Option (cq (Int×List ah) (List ah))
 |(v9,v10)=>bif ltB v9 (a0.aF.length:Int) then(abU (ix a0.aF v9) λx14=>abU (ja x14) λr15=>bif c8 288 (v10++[r15]).length then(some (.next (WR (v9+1),(v10++[r15])))) else none) else(some (.done v10))
def ul (a0:ab):(Int×List am)->Option (cq (Int×List am) (List am))
 |(v16,v17)=>bif ltB v16 (a0.bG.length:Int) then(abU (ix a0.bG v16) λx21=>abU (mG x21) λr22=>bif c8 48 (v17++[r22]).length then(some (.next (WR (v16+1),(v17++[r22])))) else none) else(some (.done v17))
def um (a0:ab):(Int×List bF)->Option (cq (Int×List bF) (List bF))
 |(v23,v24)=>bif ltB v23 (a0.aK.length:Int) then(abU (ix a0.aK v23) λx28=>abU (s9 x28) λr29=>bif c8 176 (v24++[r29]).length then(some (.next (WR (v23+1),(v24++[r29])))) else none) else(some (.done v24))
def zu (a0:ab):Option ab:=
 abU (qt a0.eo) λr1=>abU (iter (uj a0) FU (0,([]:List aJ))) λ(v6:List aJ)=>abU (iter (uk a0) FU (0,([]:List ah))) λ(v13:List ah)=>abU (iter (ul a0) FU (0,([]:List am))) λ(v20:List am)=>abU (iter (um a0) FU (0,([]:List bF))) λ(v27:List bF)=>some (⟨r1,v6,v13,v20,v27,a0.dv,a0.ef,a0.qz,a0.jr⟩:ab)
theorem HL {a0:ab} {r:ab} (H:zu a0=some r):FnV prog 112 [] [.v (.agg (kM [.f,.f,.f,.f,.f] (aU a0)))] [] (.v (.agg (kM [.t,.n 210,.n 211,.n 212,.n 213] (aU r)))) [(210,n93 r.av),(211,n75 r.aF),(212,n57 r.bG),(213,n49 r.aK)]:=by
 refine fV func112 ntmps112 ?_
 refine zI (hV 14) ?_
 refine aa H λr1 q1 H=>zA (ca (hF:=OY q1)) ?_
 refine wA (spx 100306) ?_
 refine aa H λv6 Hj H=>jB ⟨[(1,tP 210),(2,tP 211),(3,tP 212)],(oM [.t,.n 213,.z,.z,.z] 212 34 (aU (⟨r1,v6,[],[],[],a0.dv,a0.ef,a0.qz,a0.jr⟩:ab))++[(210,.var 34 (kM [.f,.f,.f,.f,.f] (aU a0))),(211,.var 34 (kM [.z,.z,.z,.z,.z] (aU {dT with eo:=(⟨[]⟩:aS)})))]),214⟩ ?_ ?_
 .refine iT Hj (λq=>⟨[(1,tP 210),(2,tP 211),(3,tP 212),(4,tI q.1)],(oM [.t,.n 213,.z,.z,.z] 212 34 (aU (⟨r1,q.2,[],[],[],a0.dv,a0.ef,a0.qz,a0.jr⟩:ab))++[(210,.var 34 (kM [.f,.f,.f,.f,.f] (aU a0))),(211,.var 34 (kM [.z,.z,.z,.z,.z] (aU {dT with eo:=(⟨[]⟩:aS)})))]),214⟩) ?_ (by refine aq (dY (o:=212) (j:=1) 93 14 true) ?_;refine aq (wB 213 (([]:List aJ).length)) ?_;exact wo)
  rintro⟨v2,v3⟩ o H
  refine ad ?_
  refine cC H ?_ ?_<;>intro H
  .refine zI (hV 12) ?_
   refine aa H λx7 hx7 H=>zA (xdT (enc:=cS) hx7) ?_
   refine aa H λr8 q8 H=>zA (ca (hF:=(jV q8).frzs (by repeat (first|exact trivial|refine⟨?_,?_⟩|exact lm _|rfl)))) ?_
   obtain⟨h,H⟩:=rq H
   refine zB b8 (gG rfl (EI (enc:=cS) (ys:=v3) (zs:=[r8]) h (by first|exact abV _ _|simp) rfl (λ_=>rfl) (by first|rfl|simp) (.w rfl (by first|rfl|exact lm _|simp)) rfl rfl rfl rfl rfl rfl rfl rfl rfl rfl)) b8 ?_
   refine wA (spx 100290) ?_
   cases H
   refine uQ ?_
   refine aq (ee 213) ?_
   exact wo
  exact aE H
 refine aa H λv13 Hj H=>jB ⟨[(1,tP 210),(2,tP 211),(3,tP 212)],(oM [.t,.n 213,.n 214,.z,.z] 212 34 (aU (⟨r1,v6,v13,[],[],a0.dv,a0.ef,a0.qz,a0.jr⟩:ab))++[(210,.var 34 (kM [.f,.f,.f,.f,.f] (aU a0))),(211,.var 34 (kM [.z,.z,.z,.z,.z] (aU {dT with eo:=(⟨[]⟩:aS)})))]),215⟩ ?_ ?_
 .refine iT Hj (λq=>⟨[(1,tP 210),(2,tP 211),(3,tP 212),(5,tI q.1)],(oM [.t,.n 213,.n 214,.z,.z] 212 34 (aU (⟨r1,v6,q.2,[],[],a0.dv,a0.ef,a0.qz,a0.jr⟩:ab))++[(210,.var 34 (kM [.f,.f,.f,.f,.f] (aU a0))),(211,.var 34 (kM [.z,.z,.z,.z,.z] (aU {dT with eo:=(⟨[]⟩:aS)})))]),215⟩) ?_ (by refine aq (dY (o:=212) (j:=2) 75 30 true) ?_;refine aq (wB 214 (([]:List ah).length)) ?_;exact wo)
  rintro⟨v9,v10⟩ o H
  refine ad ?_
  refine cC H ?_ ?_<;>intro H
  .refine zI (hV 12) ?_
   refine aa H λx14 hx14 H=>zA (xdT (enc:=bU) hx14) ?_
   refine aa H λr15 q15 H=>zA (ca (hF:=(iK q15).frzs (by repeat (first|exact trivial|refine⟨?_,?_⟩|exact lm _|rfl)))) ?_
   obtain⟨h,H⟩:=rq H
   refine zB b8 (gG rfl (EI (enc:=bU) (ys:=v10) (zs:=[r15]) h (by first|exact abV _ _|simp) rfl (λ_=>rfl) (by first|rfl|simp) (.w rfl (by first|rfl|exact lm _|simp)) rfl rfl rfl rfl rfl rfl rfl rfl rfl rfl)) b8 ?_
   refine wA (spx 100295) ?_
   cases H
   refine uQ ?_
   refine aq (ee 214) ?_
   exact wo
  exact aE H
 refine aa H λv20 Hj H=>jB ⟨[(1,tP 210),(2,tP 211),(3,tP 212)],(oM [.t,.n 213,.n 214,.n 215,.z] 212 34 (aU (⟨r1,v6,v13,v20,[],a0.dv,a0.ef,a0.qz,a0.jr⟩:ab))++[(210,.var 34 (kM [.f,.f,.f,.f,.f] (aU a0))),(211,.var 34 (kM [.z,.z,.z,.z,.z] (aU {dT with eo:=(⟨[]⟩:aS)})))]),216⟩ ?_ ?_
 .refine iT Hj (λq=>⟨[(1,tP 210),(2,tP 211),(3,tP 212),(6,tI q.1)],(oM [.t,.n 213,.n 214,.n 215,.z] 212 34 (aU (⟨r1,v6,v13,q.2,[],a0.dv,a0.ef,a0.qz,a0.jr⟩:ab))++[(210,.var 34 (kM [.f,.f,.f,.f,.f] (aU a0))),(211,.var 34 (kM [.z,.z,.z,.z,.z] (aU {dT with eo:=(⟨[]⟩:aS)})))]),216⟩) ?_ (by refine aq (dY (o:=212) (j:=3) 57 4 true) ?_;refine aq (wB 215 (([]:List am).length)) ?_;exact wo)
  rintro⟨v16,v17⟩ o H
  refine ad ?_
  refine cC H ?_ ?_<;>intro H
  .refine zI (hV 12) ?_
   refine aa H λx21 hx21 H=>zA (xdT (enc:=cN) hx21) ?_
   refine aa H λr22 q22 H=>zA (ca (hF:=(nm q22).frzs (by repeat (first|exact trivial|refine⟨?_,?_⟩|exact lm _|rfl)))) ?_
   obtain⟨h,H⟩:=rq H
   refine zB b8 (gG rfl (EI (enc:=cN) (ys:=v17) (zs:=[r22]) h (by first|exact abV _ _|simp) rfl (λ_=>rfl) (by first|rfl|simp) (.w rfl (by first|rfl|exact lm _|simp)) rfl rfl rfl rfl rfl rfl rfl rfl rfl rfl)) b8 ?_
   refine wA (spx 100300) ?_
   cases H
   refine uQ ?_
   refine aq (ee 215) ?_
   exact wo
  exact aE H
 refine aa H λv27 Hj H=>jB ⟨[(2,tP 211),(3,tP 212)],(oM [.t,.n 213,.n 214,.n 215,.n 216] 212 34 (aU (⟨r1,v6,v13,v20,v27,a0.dv,a0.ef,a0.qz,a0.jr⟩:ab))++[(211,.var 34 (kM [.z,.z,.z,.z,.z] (aU {dT with eo:=(⟨[]⟩:aS)})))]),217⟩ ?_ ?_
 .refine iT Hj (λq=>⟨[(1,tP 210),(2,tP 211),(3,tP 212),(7,tI q.1)],(oM [.t,.n 213,.n 214,.n 215,.n 216] 212 34 (aU (⟨r1,v6,v13,v20,q.2,a0.dv,a0.ef,a0.qz,a0.jr⟩:ab))++[(210,.var 34 (kM [.f,.f,.f,.f,.f] (aU a0))),(211,.var 34 (kM [.z,.z,.z,.z,.z] (aU {dT with eo:=(⟨[]⟩:aS)})))]),217⟩) ?_ (by refine aq (dY (o:=212) (j:=4) 49 21 true) ?_;refine aq (wB 216 (([]:List bF).length)) ?_;exact wo)
  rintro⟨v23,v24⟩ o H
  refine ad ?_
  refine cC H ?_ ?_<;>intro H
  .refine zI (hV 12) ?_
   refine aa H λx28 hx28 H=>zA (xdT (enc:=dr) hx28) ?_
   refine aa H λr29 q29 H=>zA (ca (hF:=(CR q29).frzs (by repeat (first|exact trivial|refine⟨?_,?_⟩|exact lm _|rfl)))) ?_
   obtain⟨h,H⟩:=rq H
   refine zB b8 (gG rfl (EI (enc:=dr) (ys:=v24) (zs:=[r29]) h (by first|exact abV _ _|simp) rfl (λ_=>rfl) (by first|rfl|simp) (.w rfl (by first|rfl|exact lm _|simp)) rfl rfl rfl rfl rfl rfl rfl rfl rfl rfl)) b8 ?_
   refine wA (spx 100305) ?_
   cases H
   refine uQ ?_
   refine aq (ee 216) ?_
   exact wo
  exact aE H
 cases H
 refine co (wS 213 210) ?_
 refine co (wS 214 211) ?_
 refine co (wS 215 212) ?_
 refine co (wS 216 213) ?_
 exact cd
end Go.AM
