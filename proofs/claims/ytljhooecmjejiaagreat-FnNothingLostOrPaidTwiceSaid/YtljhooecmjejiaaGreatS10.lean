/- A part. -/
import Derived.Test.YtljhooecmjejiaaGreatS6
set_option linter.unusedVariables false
open Option renaming bind→Un
namespace Go.AM
open Go.Proofs
attribute [local irreducible] AWN NS AWO AWR AWC DR cZ eE
set_option maxRecDepth 100000
set_option maxHeartbeats 40000000
def xW (r1:Int×aH):(Int×List Int×Int×Int×List Int)→Option (cB (Int×List Int×Int×Int×List Int) (List Int×Int×Int×List Int))
 |(v2,v3,v4,v5,v6)=>bif ltB v2 (WR (2+r1.1)) then(Un (bZ (⟨v3,v4,v5⟩:aH) 2) fun r12=>bif cS 32 (v6++[r12.1]).length then(some (.next (WR (v2+1),r12.2.fb,r12.2.fi,r12.2.fh,(v6++[r12.1])))) else none) else(some (.done (v3,v4,v5,v6)))
def xY (v13:Int):(Int×List Int×Int×Int×List (Int×List Int))→Option (cB (Int×List Int×Int×Int×List (Int×List Int)) (List Int×Int×Int×List (Int×List Int)))
 |(v43,v44,v45,v46,v47)=>bif ltB v43 v13 then(Un (bif eqB v43 (WR (v13-1)) then(Un (gb (⟨v44,v45,v46⟩:aH) 5) fun r62=>bif !r62.1 then(some (true,r62.2.fb,r62.2.fi,r62.2.fh)) else(Un (gb r62.2 4) fun r63=>some (r63.1,r63.2.fb,r63.2.fi,r63.2.fh))) else(Un (gb (⟨v44,v45,v46⟩:aH) 4) fun r64=>some (r64.1,r64.2.fb,r64.2.fi,r64.2.fh))) fun((v58,v59,v60,v61):Bool×List Int×Int×Int)=>Un (bif v58 then(Un (qf v47 v43 v13) fun r65=>some r65) else(some v47)) fun(v62:List (Int×List Int))=>some (.next (WR (v43+1),v59,v60,v61,v62))) else(some (.done (v44,v45,v46,v47)))
def xX (r1:Int×aH):(Int×List Int×Int×Int×List (Int×List Int))→Option (cB (Int×List Int×Int×Int×List (Int×List Int)) (List Int×Int×Int×List (Int×List Int)))
 |(v13,v14,v15,v16,v17)=>bif ltB v13 (WR (2+r1.1)) then(Un (iter (xY v13) FU (0,v14,v15,v16,v17)) fun((v55,v56,v57,v58):List Int×Int×Int×List (Int×List Int))=>some (.next (WR (v13+1),v55,v56,v57,v58))) else(some (.done (v14,v15,v16,v17)))
def ya (r1:Int×aH) (v66:Int) (v67:List (Int×List Int)):(Int×List Int)→Option (cB (Int×List Int) (List Int))
 |(v79,v80)=>bif ltB v79 (WR (2+r1.1)) then(Un (ix v67 v66) fun x85=>Un (wq x85.2 v79) fun r86=>Un (bif r86 then(bif cS 8 (v80++[v79]).length then(some (v80++[v79])) else none) else(some v80)) fun(v87:List Int)=>some (.next (WR (v79+1),v87))) else(some (.done v80))
def xZ (r1:Int×aH):(Int×List (Int×List Int))→Option (cB (Int×List (Int×List Int)) (List (Int×List Int)))
 |(v66,v67)=>bif ltB v66 (WR (2+r1.1)) then(Un (iter (ya r1 v66 v67) FU (0,([]:List Int))) fun(v84:List Int)=>Un (ix v67 v66) fun x88=>some (.next (WR (v66+1),(v67.set (v66).toNat (x88.1,v84))))) else(some (.done v67))
def tK (a0:aH):Option (List (Int×List Int)×aH):=
 Un (bZ a0 4) fun r1=>Un (iter (xW r1) FU (0,r1.2.fb,r1.2.fi,r1.2.fh,([]:List Int))) fun((v8,v9,v10,v11):List Int×Int×Int×List Int)=>Un (iter (xX r1) FU (1,v8,v9,v10,v11.map fun a=>(a,[]))) fun((v40,v41,v42,v43):List Int×Int×Int×List (Int×List Int))=>Un (iter (xZ r1) FU (0,v43)) fun(v78:List (Int×List Int))=>some (v78,(⟨v40,v41,v42⟩:aH))
def wm (a0:aH):Option (aK×aH):=
 Un (tK a0) fun r=>some ((⟨r.1.map fun e=>(⟨e.1,e.2⟩:fc)⟩:aK),r.2)
theorem Gb {a0:aH} {r:List (Int×List Int)×aH} (H:tK a0=some r) {AQ:Exit→St→Prop} [Clo 85 AQ] (hq:AQ .ret ⟨[(2,.v (.c (.p 220 0)))],[(200,.var 143 [.d false (.l (r.2.fb.map eU8)),.d false (.i .i64 r.2.fi),.d false (.i .i64 r.2.fh)]),(220,.var 26 [.wn 222 r.1.length]),(222,.cxo 222 157 3 r.1 none)],223⟩):
 ∃c,Tryz.f126.body=some c∧AWC Tryz.prog 85 c ⟨[(0,.v (.c (.p 200 0)))],[(200,.var 143 [.d false (.l (a0.fb.map eU8)),.d false (.i .i64 a0.fi),.d false (.i .i64 a0.fh)])],220⟩ AQ:=by
 refine⟨_,rfl,?_⟩
 refine wkz ?_
 obtain⟨r1,q1,H⟩:=ob H
 refine eR rfl (cw (o:=200) (bL q1) rfl rfl rfl rfl rfl rfl trivial rfl rfl rfl rfl) ?_
 refine wkz ?_
 obtain⟨⟨v8,v9,v10,v11⟩,Hj,H⟩:=ob H
 refine pQ ⟨[(0,.v (.c (.p 200 0))),(2,.v (.c (.p 220 0))),(3,.v (.c (.p 221 0))),(4,tI (WR (2+r1.1)))],[(200,.var 143 [.d false (.l (v8.map eU8)),.d false (.i .i64 v9),.d false (.i .i64 v10)]),(220,.var 26 [.nil]),(221,.var 26 [.wn 222 v11.length]),(222,.rown 157 2 (v11.map Qw) true)],223⟩ ?_ ?_
 ·refine wkz ?_
  refine pP (fun(q:Int×List Int×Int×Int×List Int)=>⟨[(0,.v (.c (.p 200 0))),(2,.v (.c (.p 220 0))),(3,.v (.c (.p 221 0))),(4,tI (WR (2+r1.1))),(5,tI q.1)],[(200,.var 143 [.d false (.l (q.2.1.map eU8)),.d false (.i .i64 q.2.2.1),.d false (.i .i64 q.2.2.2.1)]),(220,.var 26 [.nil]),(221,.var 26 [.wn 222 q.2.2.2.2.length]),(222,.rown 157 2 (q.2.2.2.2.map Qw) true)],223⟩) Hj (by refine aq (c8 (o:=221) (j:=0) 157 2 true rfl rfl rfl rfl rfl) ?_;refine aq (qr (o:=222) (n:=([]:List Int).length) rfl rfl (by repeat (first|exact trivial|refine⟨by first|rfl|simp,?_⟩)) (by repeat (first|exact trivial|refine⟨by first|rfl|simp,?_⟩))) ?_;exact dY ⟨rfl,rfl,rfl,rfl,rfl,rfl,rfl,rfl,rfl,rfl,trivial⟩ ⟨rfl,⟨rfl,rfl⟩,rfl,⟨rfl,rfl⟩,rfl,⟨rfl,rfl⟩,rfl,⟨rfl,rfl⟩,trivial⟩) ?_
  rintro⟨v2,v3,v4,v5,v6⟩ o H
  try dsimp only
  refine wkz ?_
  refine lR rfl (fun h=>?_) (fun h=>?_)
  ·have H:=bt h H
   refine wkz ?_
   refine qt [0,1,2,3,4,5,6,7,8] Try.follows (by kernel_rfl) (by kernel_rfl) rfl ?_
   refine wkz ?_
   obtain⟨r12,q12,H⟩:=ob H
   refine yl rfl (cwx (o:=200) (bL q12) rfl rfl rfl rfl rfl rfl trivial rfl rfl rfl rfl) ?_
   refine jD rfl (bdk rfl rfl rfl rfl) ?_
   refine wkz ?_
   obtain⟨h,H⟩:=rq H
   refine CW (by kernel_rfl) rfl (by kernel_rfl) bT (gq rfl (yk (enc:=Qw) (ys:=v6) (zs:=[r12.1]) h (by first|exact List.cons_ne_nil _ _|simp) rfl (fun _=>rfl) (by first|rfl|simp) (.w rfl (by first|rfl|exact lm _|simp)) rfl rfl rfl rfl rfl rfl rfl rfl rfl rfl)) bT rfl ?_
   refine wkz ?_
   refine yl rfl (spx 100015 rfl rfl rfl rfl rfl rfl rfl rfl) ?_
   refine wkz ?_
   cases H
   refine ee ?_
   refine aq (du 222 rfl rfl rfl) ?_
   exact dY ⟨rfl,rfl,rfl,rfl,rfl,rfl,rfl,rfl,rfl,rfl,trivial⟩ ⟨rfl,⟨rfl,rfl⟩,rfl,⟨rfl,rfl⟩,rfl,⟨rfl,rfl⟩,rfl,⟨rfl,rfl⟩,trivial⟩
  ·have H:=bf h H
   refine wkz ?_
   cases H
   refine ed (fun hq=>?_)
   cases hq
   refine wkz ?_
   exact dY ⟨rfl,rfl,rfl,rfl,rfl,rfl,rfl,rfl,trivial⟩ ⟨rfl,⟨rfl,rfl⟩,rfl,⟨rfl,rfl⟩,rfl,⟨rfl,rfl⟩,rfl,⟨rfl,rfl⟩,trivial⟩
 refine wkz ?_
 refine jY (PH (o:=222) (nt:=3) (al:=v11) rfl rfl) ?_
 refine jY (qr (o:=222) (n:=(v11.map fun a=>((a,[]):Int×List Int)).length) rfl rfl (by repeat (first|exact trivial|refine⟨by first|rfl|simp,?_⟩)) (by repeat (first|exact trivial|refine⟨by first|rfl|simp,?_⟩))) ?_
 obtain⟨⟨v40,v41,v42,v43⟩,Hj,H⟩:=ob H
 refine pQ ⟨[(2,.v (.c (.p 220 0))),(3,.v (.c (.p 221 0))),(4,tI (WR (2+r1.1)))],[(200,.var 143 [.d false (.l (v40.map eU8)),.d false (.i .i64 v41),.d false (.i .i64 v42)]),(220,.var 26 [.nil]),(221,.var 26 [.wn 222 v43.length]),(222,.cxo 222 157 3 v43 none)],223⟩ ?_ ?_
 ·refine wkz ?_
  refine pP (fun(q:Int×List Int×Int×Int×List (Int×List Int))=>⟨[(0,.v (.c (.p 200 0))),(2,.v (.c (.p 220 0))),(3,.v (.c (.p 221 0))),(4,tI (WR (2+r1.1))),(6,tI q.1)],[(200,.var 143 [.d false (.l (q.2.1.map eU8)),.d false (.i .i64 q.2.2.1),.d false (.i .i64 q.2.2.2.1)]),(220,.var 26 [.nil]),(221,.var 26 [.wn 222 q.2.2.2.2.length]),(222,.cxo 222 157 3 q.2.2.2.2 none)],223⟩) Hj (dY ⟨rfl,rfl,rfl,rfl,rfl,rfl,rfl,rfl,rfl,rfl,trivial⟩ ⟨rfl,⟨rfl,rfl⟩,rfl,⟨rfl,rfl⟩,rfl,⟨rfl,rfl⟩,rfl,⟨rfl,rfl⟩,trivial⟩) ?_
  rintro⟨v13,v14,v15,v16,v17⟩ o H
  try dsimp only
  refine wkz ?_
  refine lR rfl (fun h=>?_) (fun h=>?_)
  ·have H:=bt h H
   refine wkz ?_
   obtain⟨⟨v55,v56,v57,v58⟩,Hj,H⟩:=ob H
   refine pQ ⟨[(0,.v (.c (.p 200 0))),(2,.v (.c (.p 220 0))),(3,.v (.c (.p 221 0))),(4,tI (WR (2+r1.1))),(6,tI v13)],[(200,.var 143 [.d false (.l (v55.map eU8)),.d false (.i .i64 v56),.d false (.i .i64 v57)]),(220,.var 26 [.nil]),(221,.var 26 [.wn 222 v58.length]),(222,.cxo 222 157 3 v58 none)],223⟩ ?_ ?_
   ·refine wkz ?_
    refine pP (fun(q:Int×List Int×Int×Int×List (Int×List Int))=>⟨[(0,.v (.c (.p 200 0))),(2,.v (.c (.p 220 0))),(3,.v (.c (.p 221 0))),(4,tI (WR (2+r1.1))),(6,tI v13),(7,tI q.1)],[(200,.var 143 [.d false (.l (q.2.1.map eU8)),.d false (.i .i64 q.2.2.1),.d false (.i .i64 q.2.2.2.1)]),(220,.var 26 [.nil]),(221,.var 26 [.wn 222 q.2.2.2.2.length]),(222,.cxo 222 157 3 q.2.2.2.2 none)],223⟩) Hj (dY ⟨rfl,rfl,rfl,rfl,rfl,rfl,rfl,rfl,rfl,rfl,rfl,rfl,trivial⟩ ⟨rfl,⟨rfl,rfl⟩,rfl,⟨rfl,rfl⟩,rfl,⟨rfl,rfl⟩,rfl,⟨rfl,rfl⟩,trivial⟩) ?_
    rintro⟨v43,v44,v45,v46,v47⟩ o H
    try dsimp only
    refine wkz ?_
    refine lR rfl (fun h=>?_) (fun h=>?_)
    ·have H:=bt h H
     refine wkz ?_
     obtain⟨⟨v58,v59,v60,v61⟩,Hj,H⟩:=ob H
     refine Ep ⟨[(0,.v (.c (.p 200 0))),(2,.v (.c (.p 220 0))),(3,.v (.c (.p 221 0))),(4,tI (WR (2+r1.1))),(6,tI v13),(7,tI v43),(50,tB v58)],[(200,.var 143 [.d false (.l (v59.map eU8)),.d false (.i .i64 v60),.d false (.i .i64 v61)]),(220,.var 26 [.nil]),(221,.var 26 [.wn 222 v47.length]),(222,.cxo 222 157 3 v47 none)],223⟩ ?_ ?_
     ·have H:=Hj
      refine wkz ?_
      refine g2 rfl rfl rfl (fun h=>?_) (fun h=>?_)
      ·have H:=bt h H
       refine wkz ?_
       obtain⟨r62,q62,H⟩:=ob H
       refine jc rfl rfl (cF rfl) rfl (cw (o:=200) (f7 q62) rfl rfl rfl rfl rfl rfl trivial rfl rfl rfl rfl) ?_
       refine wkz ?_
       refine g2 rfl rfl rfl (fun h=>?_) (fun h=>?_)
       ·have H:=bt h H
        refine wkz ?_
        cases H
        exact dY ⟨rfl,rfl,rfl,rfl,rfl,rfl,rfl,rfl,rfl,rfl,rfl,rfl,rfl,rfl,trivial⟩ ⟨rfl,⟨rfl,rfl⟩,rfl,⟨rfl,rfl⟩,rfl,⟨rfl,rfl⟩,rfl,⟨rfl,rfl⟩,trivial⟩
       ·have H:=bf h H
        refine wkz ?_
        obtain⟨r63,q63,H⟩:=ob H
        refine jc rfl rfl (cF rfl) rfl (cw (o:=200) (f7 q63) rfl rfl rfl rfl rfl rfl trivial rfl rfl rfl rfl) ?_
        refine wkz ?_
        cases H
        exact dY ⟨rfl,rfl,rfl,rfl,rfl,rfl,rfl,rfl,rfl,rfl,rfl,rfl,rfl,rfl,trivial⟩ ⟨rfl,⟨rfl,rfl⟩,rfl,⟨rfl,rfl⟩,rfl,⟨rfl,rfl⟩,rfl,⟨rfl,rfl⟩,trivial⟩
      ·have H:=bf h H
       refine wkz ?_
       obtain⟨r64,q64,H⟩:=ob H
       refine jc rfl rfl (cF rfl) rfl (cw (o:=200) (f7 q64) rfl rfl rfl rfl rfl rfl trivial rfl rfl rfl rfl) ?_
       refine wkz ?_
       cases H
       exact dY ⟨rfl,rfl,rfl,rfl,rfl,rfl,rfl,rfl,rfl,rfl,rfl,rfl,rfl,rfl,trivial⟩ ⟨rfl,⟨rfl,rfl⟩,rfl,⟨rfl,rfl⟩,rfl,⟨rfl,rfl⟩,rfl,⟨rfl,rfl⟩,trivial⟩
     refine wkz ?_
     obtain⟨v62,Hj,H⟩:=ob H
     refine rR ⟨[(0,.v (.c (.p 200 0))),(2,.v (.c (.p 220 0))),(3,.v (.c (.p 221 0))),(4,tI (WR (2+r1.1))),(6,tI v13),(7,tI v43)],[(200,.var 143 [.d false (.l (v59.map eU8)),.d false (.i .i64 v60),.d false (.i .i64 v61)]),(220,.var 26 [.nil]),(221,.var 26 [.wn 222 v62.length]),(222,.cxo 222 157 3 v62 none)],223⟩ ?_ ?_
     ·have H:=Hj
      refine wkz ?_
      refine lR rfl (fun h=>?_) (fun h=>?_)
      ·have H:=bt h H
       refine wkz ?_
       obtain⟨r65,q65,H⟩:=ob H
       obtain⟨cJ,hcJ,hJ⟩:=Gc (fb:=v59.map eU8) (fi:=v60) (fh:=v61) q65 rfl
       refine eR rfl (o_inl (m:=[(200,200),(202,220),(203,221),(222,222)]) (m':=[(200,200),(202,220),(203,221),(222,222)]) (nx':=223) Tryz.func196 hcJ (by kernel_rfl) Tryz.ntmps196 rfl hJ rfl rfl rfl rfl rfl rfl rfl rfl rfl rfl rfl) ?_
       refine wkz ?_
       cases H
       refine aq (qr (o:=222) (n:=v62.length) rfl rfl (by repeat (first|exact trivial|refine⟨by first|rfl|exact(nn q65).symm|exact nn q65|simp,?_⟩)) (by repeat (first|exact trivial|refine⟨by first|rfl|exact(nn q65).symm|exact nn q65|simp,?_⟩))) ?_
       exact dY ⟨rfl,rfl,rfl,rfl,rfl,rfl,rfl,rfl,rfl,rfl,rfl,rfl,trivial⟩ ⟨rfl,⟨rfl,rfl⟩,rfl,⟨rfl,rfl⟩,rfl,⟨rfl,rfl⟩,rfl,⟨rfl,rfl⟩,trivial⟩
      ·have H:=bf h H
       refine wkz ?_
       cases H
       exact dY ⟨rfl,rfl,rfl,rfl,rfl,rfl,rfl,rfl,rfl,rfl,rfl,rfl,trivial⟩ ⟨rfl,⟨rfl,rfl⟩,rfl,⟨rfl,rfl⟩,rfl,⟨rfl,rfl⟩,rfl,⟨rfl,rfl⟩,trivial⟩
     refine wkz ?_
     cases H
     refine ee ?_
     exact dY ⟨rfl,rfl,rfl,rfl,rfl,rfl,rfl,rfl,rfl,rfl,rfl,rfl,trivial⟩ ⟨rfl,⟨rfl,rfl⟩,rfl,⟨rfl,rfl⟩,rfl,⟨rfl,rfl⟩,rfl,⟨rfl,rfl⟩,trivial⟩
    ·have H:=bf h H
     refine wkz ?_
     cases H
     refine ed (fun hq=>?_)
     cases hq
     refine wkz ?_
     exact dY ⟨rfl,rfl,rfl,rfl,rfl,rfl,rfl,rfl,rfl,rfl,trivial⟩ ⟨rfl,⟨rfl,rfl⟩,rfl,⟨rfl,rfl⟩,rfl,⟨rfl,rfl⟩,rfl,⟨rfl,rfl⟩,trivial⟩
   refine wkz ?_
   cases H
   refine ee ?_
   exact dY ⟨rfl,rfl,rfl,rfl,rfl,rfl,rfl,rfl,rfl,rfl,trivial⟩ ⟨rfl,⟨rfl,rfl⟩,rfl,⟨rfl,rfl⟩,rfl,⟨rfl,rfl⟩,rfl,⟨rfl,rfl⟩,trivial⟩
  ·have H:=bf h H
   refine wkz ?_
   cases H
   refine ed (fun hq=>?_)
   cases hq
   refine wkz ?_
   exact dY ⟨rfl,rfl,rfl,rfl,rfl,rfl,trivial⟩ ⟨rfl,⟨rfl,rfl⟩,rfl,⟨rfl,rfl⟩,rfl,⟨rfl,rfl⟩,rfl,⟨rfl,rfl⟩,trivial⟩
 refine wkz ?_
 obtain⟨v78,Hj,H⟩:=ob H
 refine pQ ⟨[(2,.v (.c (.p 220 0))),(3,.v (.c (.p 221 0)))],[(200,.var 143 [.d false (.l (v40.map eU8)),.d false (.i .i64 v41),.d false (.i .i64 v42)]),(220,.var 26 [.nil]),(221,.var 26 [.wn 222 v78.length]),(222,.cxo 222 157 3 v78 none)],223⟩ ?_ ?_
 ·refine wkz ?_
  refine pP (fun(q:Int×List (Int×List Int))=>⟨[(2,.v (.c (.p 220 0))),(3,.v (.c (.p 221 0))),(4,tI (WR (2+r1.1))),(8,tI q.1)],[(200,.var 143 [.d false (.l (v40.map eU8)),.d false (.i .i64 v41),.d false (.i .i64 v42)]),(220,.var 26 [.nil]),(221,.var 26 [.wn 222 q.2.length]),(222,.cxo 222 157 3 q.2 none)],223⟩) Hj (dY ⟨rfl,rfl,rfl,rfl,rfl,rfl,rfl,rfl,trivial⟩ ⟨rfl,⟨rfl,rfl⟩,rfl,⟨rfl,rfl⟩,rfl,⟨rfl,rfl⟩,rfl,⟨rfl,rfl⟩,trivial⟩) ?_
  rintro⟨v66,v67⟩ o H
  try dsimp only
  refine wkz ?_
  refine lR rfl (fun h=>?_) (fun h=>?_)
  ·have H:=bt h H
   refine wkz ?_
   obtain⟨v84,Hj,H⟩:=ob H
   refine pQ ⟨[(2,.v (.c (.p 220 0))),(3,.v (.c (.p 221 0))),(4,tI (WR (2+r1.1))),(8,tI v66),(9,.v (.c (.w 223 v84.length)))],[(200,.var 143 [.d false (.l (v40.map eU8)),.d false (.i .i64 v41),.d false (.i .i64 v42)]),(220,.var 26 [.nil]),(221,.var 26 [.wn 222 v67.length]),(222,.cxo 222 157 3 v67 none),(223,.row 3 1 (v84.map eI) true true)],224⟩ ?_ ?_
   ·refine wkz ?_
    refine pP (fun(q:Int×List Int)=>⟨[(2,.v (.c (.p 220 0))),(3,.v (.c (.p 221 0))),(4,tI (WR (2+r1.1))),(8,tI v66),(9,.v (.c (.w 223 q.2.length))),(10,tI q.1)],[(200,.var 143 [.d false (.l (v40.map eU8)),.d false (.i .i64 v41),.d false (.i .i64 v42)]),(220,.var 26 [.nil]),(221,.var 26 [.wn 222 v67.length]),(222,.cxo 222 157 3 v67 none),(223,.row 3 1 (q.2.map eI) true true)],224⟩) Hj (dY ⟨rfl,rfl,rfl,rfl,rfl,rfl,rfl,rfl,wn rfl (by first|rfl|simp),rfl,rfl,rfl,trivial⟩ ⟨rfl,⟨rfl,rfl⟩,rfl,⟨rfl,rfl⟩,rfl,⟨rfl,rfl⟩,rfl,⟨rfl,rfl⟩,rfl,⟨rfl,rfl⟩,trivial⟩) ?_
    rintro⟨v79,v80⟩ o H
    try dsimp only
    refine wkz ?_
    refine lR rfl (fun h=>?_) (fun h=>?_)
    ·have H:=bt h H
     refine wkz ?_
     obtain⟨x85,hx85,H⟩:=ob H
     refine uh rfl (mq hx85 rfl rfl rfl rfl) ?_
     refine wkz ?_
     refine uh rfl (olx (ixE hx85).2 rfl rfl rfl) ?_
     refine wkz ?_
     obtain⟨r86,q86,H⟩:=ob H
     refine uh rfl (ca rfl rfl rfl (xB q86) trivial rfl rfl rfl rfl) ?_
     refine wkz ?_
     obtain⟨v87,Hj,H⟩:=ob H
     refine rR ⟨[(2,.v (.c (.p 220 0))),(3,.v (.c (.p 221 0))),(4,tI (WR (2+r1.1))),(8,tI v66),(9,.v (.c (.w 223 v87.length))),(10,tI v79)],[(200,.var 143 [.d false (.l (v40.map eU8)),.d false (.i .i64 v41),.d false (.i .i64 v42)]),(220,.var 26 [.nil]),(221,.var 26 [.wn 222 v67.length]),(222,.cxo 222 157 3 v67 none),(223,.row 3 1 (v87.map eI) true true)],224⟩ ?_ ?_
     ·have H:=Hj
      refine wkz ?_
      refine lR rfl (fun h=>?_) (fun h=>?_)
      ·have H:=bt h H
       refine wkz ?_
       obtain⟨h,H⟩:=rq H
       refine eR rfl (apT (enc:=eI) (ys:=v80) (zs:=[v79]) h) ?_
       refine wkz ?_
       cases H
       exact dY ⟨rfl,rfl,rfl,rfl,rfl,rfl,rfl,rfl,wn rfl (by first|rfl|simp),rfl,rfl,rfl,trivial⟩ ⟨rfl,⟨rfl,rfl⟩,rfl,⟨rfl,rfl⟩,rfl,⟨rfl,rfl⟩,rfl,⟨rfl,rfl⟩,rfl,⟨rfl,rfl⟩,trivial⟩
      ·have H:=bf h H
       refine wkz ?_
       cases H
       exact dY ⟨rfl,rfl,rfl,rfl,rfl,rfl,rfl,rfl,wn rfl (by first|rfl|simp),rfl,rfl,rfl,trivial⟩ ⟨rfl,⟨rfl,rfl⟩,rfl,⟨rfl,rfl⟩,rfl,⟨rfl,rfl⟩,rfl,⟨rfl,rfl⟩,rfl,⟨rfl,rfl⟩,trivial⟩
     refine wkz ?_
     cases H
     refine ee ?_
     exact dY ⟨rfl,rfl,rfl,rfl,rfl,rfl,rfl,rfl,wn rfl (by first|rfl|simp),rfl,rfl,rfl,trivial⟩ ⟨rfl,⟨rfl,rfl⟩,rfl,⟨rfl,rfl⟩,rfl,⟨rfl,rfl⟩,rfl,⟨rfl,rfl⟩,rfl,⟨rfl,rfl⟩,trivial⟩
    ·have H:=bf h H
     refine wkz ?_
     cases H
     refine ed (fun hq=>?_)
     cases hq
     refine wkz ?_
     exact dY ⟨rfl,rfl,rfl,rfl,rfl,rfl,rfl,rfl,wn rfl (by first|rfl|simp),rfl,trivial⟩ ⟨rfl,⟨rfl,rfl⟩,rfl,⟨rfl,rfl⟩,rfl,⟨rfl,rfl⟩,rfl,⟨rfl,rfl⟩,rfl,⟨rfl,rfl⟩,trivial⟩
   refine wkz ?_
   obtain⟨x88,hx88,H⟩:=ob H
   refine uh rfl (mq hx88 rfl rfl rfl rfl) ?_
   refine wkz ?_
   refine eR rfl (Fx (o:=222) (s:=223) (ys:=v84) rfl rfl rfl rfl rfl (ixE hx88).2 (.inl rfl) rfl rfl rfl rfl rfl rfl rfl) ?_
   refine wkz ?_
   cases H
   refine ee ?_
   refine aq (qr (o:=222) (n:=(v67.set (v66).toNat (x88.1,v84)).length) rfl rfl (by repeat (first|exact trivial|refine⟨by first|rfl|simp,?_⟩)) (by repeat (first|exact trivial|refine⟨by first|rfl|simp,?_⟩))) ?_
   exact dY ⟨rfl,rfl,rfl,rfl,rfl,rfl,rfl,rfl,trivial⟩ ⟨rfl,⟨rfl,rfl⟩,rfl,⟨rfl,rfl⟩,rfl,⟨rfl,rfl⟩,rfl,⟨rfl,rfl⟩,trivial⟩
  ·have H:=bf h H
   refine wkz ?_
   cases H
   refine ed (fun hq=>?_)
   cases hq
   refine wkz ?_
   exact dY ⟨rfl,rfl,rfl,rfl,trivial⟩ ⟨rfl,⟨rfl,rfl⟩,rfl,⟨rfl,rfl⟩,rfl,⟨rfl,rfl⟩,rfl,⟨rfl,rfl⟩,trivial⟩
 refine wkz ?_
 cases H
 refine clo_w (N:=85) ?_ hq
 exact dY ⟨rfl,rfl,trivial⟩ ⟨rfl,⟨rfl,rfl⟩,rfl,⟨rfl,rfl⟩,rfl,⟨rfl,rfl⟩,trivial⟩
theorem JN (v:List (Int×List Int)):v.map LR=(v.map fun e=>(⟨e.1,e.2⟩:fc)).map dP:=by rw[List.map_map];rfl
theorem Az {a0:aH} {r:aK×aH} (H:wm a0=some r):FnV Tryz.prog 126 [(200,.var 143 [.d false (.l (a0.fb.map eU8)),.d false (.i .i64 a0.fi),.d false (.i .i64 a0.fh)])] [.v (.c (.p 200 0))] [(200,.var 143 [.d false (.l (r.2.fb.map eU8)),.d false (.i .i64 r.2.fi),.d false (.i .i64 r.2.fh)])] (.v (.agg [.wn 210 r.1.aX.length])) [(210,.rown 157 2 (r.1.aX.map dP) true)]:=by
 obtain⟨⟨v,cu⟩,hX,H⟩:=ob H
 cases H
 obtain⟨c,hc,h⟩:=Gb hX (AQ:=rL 85 Tryz.prog [ResultVar.cell 2 26] [(200,.var 143 [.d false (.l (cu.fb.map eU8)),.d false (.i .i64 cu.fi),.d false (.i .i64 cu.fh)])] (.v (.agg [.wn 210 (v.map fun e=>(⟨e.1,e.2⟩:fc)).length])) [(210,.rown 157 2 ((v.map fun e=>(⟨e.1,e.2⟩:fc)).map dP) true)]) (by
  refine bU (HU (o:=222) rfl rfl rfl rfl rfl) ?_
  rw[JN]
  refine bU (qr (o:=222) (n:=(v.map fun e=>(⟨e.1,e.2⟩:fc)).length) rfl rfl (by repeat (first|exact trivial|refine⟨by first|rfl|simp,?_⟩)) (by repeat (first|exact trivial|refine⟨by first|rfl|simp,?_⟩))) ?_
  refine bU (Gz (p:=222) (q:=210) rfl rfl rfl rfl) ?_
  exact bV (.cons (.cell rfl rfl rfl) .nil) rfl (by first|rfl|simp) ⟨rfl,trivial⟩ ⟨rfl,trivial⟩)
 exact LZ Tryz.func126 hc (by kernel_rfl) Tryz.ntmps126 rfl rfl rfl (jY (wN (nx':=220) rfl) h)
end Go.AM
