/- A part. -/
import Derived.Test.YtljhooecmjejiaaGreatS6
set_option linter.unusedVariables false
open Option renaming bind→Vj
namespace Go.AM
open Go.Proofs
attribute [local irreducible] AWN NS AWO AWR AWC DR cZ ey
set_option maxRecDepth 100000
set_option maxHeartbeats 40000000
def yU (r1:Int×aE):(Int×List Int×Int×Int×List Int)→Option (cp (Int×List Int×Int×Int×List Int) (List Int×Int×Int×List Int))
 |(v2,v3,v4,v5,v6)=>bif ltB v2 (WR (2+r1.1)) then(Vj (bS (⟨v3,v4,v5⟩:aE) 2) fun r12=>bif cM 32 (v6++[r12.1]).length then(some (.next (WR (v2+1),r12.2.fb,r12.2.fi,r12.2.fh,(v6++[r12.1])))) else none) else(some (.done (v3,v4,v5,v6)))
def yW (v13:Int):(Int×List Int×Int×Int×List (Int×List Int))→Option (cp (Int×List Int×Int×Int×List (Int×List Int)) (List Int×Int×Int×List (Int×List Int)))
 |(v43,v44,v45,v46,v47)=>bif ltB v43 v13 then(Vj (bif eqB v43 (WR (v13-1)) then(Vj (fZ (⟨v44,v45,v46⟩:aE) 5) fun r62=>bif !r62.1 then(some (true,r62.2.fb,r62.2.fi,r62.2.fh)) else(Vj (fZ r62.2 4) fun r63=>some (r63.1,r63.2.fb,r63.2.fi,r63.2.fh))) else(Vj (fZ (⟨v44,v45,v46⟩:aE) 4) fun r64=>some (r64.1,r64.2.fb,r64.2.fi,r64.2.fh))) fun((v58,v59,v60,v61):Bool×List Int×Int×Int)=>Vj (bif v58 then(Vj (qC v47 v43 v13) fun r65=>some r65) else(some v47)) fun(v62:List (Int×List Int))=>some (.next (WR (v43+1),v59,v60,v61,v62))) else(some (.done (v44,v45,v46,v47)))
def yV (r1:Int×aE):(Int×List Int×Int×Int×List (Int×List Int))→Option (cp (Int×List Int×Int×Int×List (Int×List Int)) (List Int×Int×Int×List (Int×List Int)))
 |(v13,v14,v15,v16,v17)=>bif ltB v13 (WR (2+r1.1)) then(Vj (iter (yW v13) FU (0,v14,v15,v16,v17)) fun((v55,v56,v57,v58):List Int×Int×Int×List (Int×List Int))=>some (.next (WR (v13+1),v55,v56,v57,v58))) else(some (.done (v14,v15,v16,v17)))
def yY (r1:Int×aE) (v66:Int) (v67:List (Int×List Int)):(Int×List Int)→Option (cp (Int×List Int) (List Int))
 |(v79,v80)=>bif ltB v79 (WR (2+r1.1)) then(Vj (ix v67 v66) fun x85=>Vj (xo x85.2 v79) fun r86=>Vj (bif r86 then(bif cM 8 (v80++[v79]).length then(some (v80++[v79])) else none) else(some v80)) fun(v87:List Int)=>some (.next (WR (v79+1),v87))) else(some (.done v80))
def yX (r1:Int×aE):(Int×List (Int×List Int))→Option (cp (Int×List (Int×List Int)) (List (Int×List Int)))
 |(v66,v67)=>bif ltB v66 (WR (2+r1.1)) then(Vj (iter (yY r1 v66 v67) FU (0,([]:List Int))) fun(v84:List Int)=>Vj (ix v67 v66) fun x88=>some (.next (WR (v66+1),(v67.set (v66).toNat (x88.1,v84))))) else(some (.done v67))
def uu (a0:aE):Option (List (Int×List Int)×aE):=
 Vj (bS a0 4) fun r1=>Vj (iter (yU r1) FU (0,r1.2.fb,r1.2.fi,r1.2.fh,([]:List Int))) fun((v8,v9,v10,v11):List Int×Int×Int×List Int)=>Vj (iter (yV r1) FU (1,v8,v9,v10,v11.map fun a=>(a,[]))) fun((v40,v41,v42,v43):List Int×Int×Int×List (Int×List Int))=>Vj (iter (yX r1) FU (0,v43)) fun(v78:List (Int×List Int))=>some (v78,(⟨v40,v41,v42⟩:aE))
def xn (a0:aE):Option (aM×aE):=
 Vj (uu a0) fun r=>some ((⟨r.1.map fun e=>(⟨e.1,e.2⟩:fx)⟩:aM),r.2)
theorem Hp {a0:aE} {r:List (Int×List Int)×aE} (H:uu a0=some r) {AQ:Exit→St→Prop} [Clo 85 AQ] (hq:AQ .ret ⟨[(2,.v (.c (.p 220 0)))],[(200,.var 143 [.d false (.l (r.2.fb.map eU8)),.d false (.i .i64 r.2.fi),.d false (.i .i64 r.2.fh)]),(220,.var 26 [.wn 222 r.1.length]),(222,.cxo 222 157 3 r.1 none)],223⟩):
 ∃c,Tryz.f126.body=some c∧AWC Tryz.prog 85 c ⟨[(0,.v (.c (.p 200 0)))],[(200,.var 143 [.d false (.l (a0.fb.map eU8)),.d false (.i .i64 a0.fi),.d false (.i .i64 a0.fh)])],220⟩ AQ:=by
 refine⟨_,rfl,?_⟩
 refine wkz ?_
 obtain⟨r1,q1,H⟩:=ob H
 refine eS rfl (cw (o:=200) (bz q1) rfl rfl rfl rfl rfl rfl trivial rfl rfl rfl rfl) ?_
 refine wkz ?_
 obtain⟨⟨v8,v9,v10,v11⟩,Hj,H⟩:=ob H
 refine qf ⟨[(0,.v (.c (.p 200 0))),(2,.v (.c (.p 220 0))),(3,.v (.c (.p 221 0))),(4,tI (WR (2+r1.1)))],[(200,.var 143 [.d false (.l (v8.map eU8)),.d false (.i .i64 v9),.d false (.i .i64 v10)]),(220,.var 26 [.nil]),(221,.var 26 [.wn 222 v11.length]),(222,.rown 157 2 (v11.map RH) true)],223⟩ ?_ ?_
 ·refine wkz ?_
  refine qd (fun(q:Int×List Int×Int×Int×List Int)=>⟨[(0,.v (.c (.p 200 0))),(2,.v (.c (.p 220 0))),(3,.v (.c (.p 221 0))),(4,tI (WR (2+r1.1))),(5,tI q.1)],[(200,.var 143 [.d false (.l (q.2.1.map eU8)),.d false (.i .i64 q.2.2.1),.d false (.i .i64 q.2.2.2.1)]),(220,.var 26 [.nil]),(221,.var 26 [.wn 222 q.2.2.2.2.length]),(222,.rown 157 2 (q.2.2.2.2.map RH) true)],223⟩) Hj (by refine an (c7 (o:=221) (j:=0) 157 2 true rfl rfl rfl rfl rfl) ?_;refine an (qN (o:=222) (n:=([]:List Int).length) rfl rfl (by repeat (first|exact trivial|refine⟨by first|rfl|simp,?_⟩)) (by repeat (first|exact trivial|refine⟨by first|rfl|simp,?_⟩))) ?_;exact d9 ⟨rfl,rfl,rfl,rfl,rfl,rfl,rfl,rfl,rfl,rfl,trivial⟩ ⟨rfl,⟨rfl,rfl⟩,rfl,⟨rfl,rfl⟩,rfl,⟨rfl,rfl⟩,rfl,⟨rfl,rfl⟩,trivial⟩) ?_
  rintro⟨v2,v3,v4,v5,v6⟩ o H
  try dsimp only
  refine wkz ?_
  refine mf rfl (fun h=>?_) (fun h=>?_)
  ·have H:=bt h H
   refine wkz ?_
   refine pV [0,1,2,3,4,5,6,7,8] Try.follows (by kernel_rfl) (by kernel_rfl) rfl ?_
   refine wkz ?_
   obtain⟨r12,q12,H⟩:=ob H
   refine xS rfl (cwx (o:=200) (bz q12) rfl rfl rfl rfl rfl rfl trivial rfl rfl rfl rfl) ?_
   refine iA rfl (bdk rfl rfl rfl rfl) ?_
   refine wkz ?_
   obtain⟨h,H⟩:=rq H
   refine Au (by kernel_rfl) rfl (by kernel_rfl) bO (f8 rfl (xL (enc:=RH) (ys:=v6) (zs:=[r12.1]) h (by first|exact List.cons_ne_nil _ _|simp) rfl (fun _=>rfl) (by first|rfl|simp) (.w rfl (by first|rfl|exact lm _|simp)) rfl rfl rfl rfl rfl rfl rfl rfl rfl rfl)) bO rfl ?_
   refine wkz ?_
   refine xS rfl (spx 100015 rfl rfl rfl rfl rfl rfl rfl rfl) ?_
   refine wkz ?_
   cases H
   refine dU ?_
   refine an (c8 222 rfl rfl rfl) ?_
   exact d9 ⟨rfl,rfl,rfl,rfl,rfl,rfl,rfl,rfl,rfl,rfl,trivial⟩ ⟨rfl,⟨rfl,rfl⟩,rfl,⟨rfl,rfl⟩,rfl,⟨rfl,rfl⟩,rfl,⟨rfl,rfl⟩,trivial⟩
  ·have H:=bf h H
   refine wkz ?_
   cases H
   refine dT (fun hq=>?_)
   cases hq
   refine wkz ?_
   exact d9 ⟨rfl,rfl,rfl,rfl,rfl,rfl,rfl,rfl,trivial⟩ ⟨rfl,⟨rfl,rfl⟩,rfl,⟨rfl,rfl⟩,rfl,⟨rfl,rfl⟩,rfl,⟨rfl,rfl⟩,trivial⟩
 refine wkz ?_
 refine jr (Q0 (o:=222) (nt:=3) (al:=v11) rfl rfl) ?_
 refine jr (qN (o:=222) (n:=(v11.map fun a=>((a,[]):Int×List Int)).length) rfl rfl (by repeat (first|exact trivial|refine⟨by first|rfl|simp,?_⟩)) (by repeat (first|exact trivial|refine⟨by first|rfl|simp,?_⟩))) ?_
 obtain⟨⟨v40,v41,v42,v43⟩,Hj,H⟩:=ob H
 refine qf ⟨[(2,.v (.c (.p 220 0))),(3,.v (.c (.p 221 0))),(4,tI (WR (2+r1.1)))],[(200,.var 143 [.d false (.l (v40.map eU8)),.d false (.i .i64 v41),.d false (.i .i64 v42)]),(220,.var 26 [.nil]),(221,.var 26 [.wn 222 v43.length]),(222,.cxo 222 157 3 v43 none)],223⟩ ?_ ?_
 ·refine wkz ?_
  refine qd (fun(q:Int×List Int×Int×Int×List (Int×List Int))=>⟨[(0,.v (.c (.p 200 0))),(2,.v (.c (.p 220 0))),(3,.v (.c (.p 221 0))),(4,tI (WR (2+r1.1))),(6,tI q.1)],[(200,.var 143 [.d false (.l (q.2.1.map eU8)),.d false (.i .i64 q.2.2.1),.d false (.i .i64 q.2.2.2.1)]),(220,.var 26 [.nil]),(221,.var 26 [.wn 222 q.2.2.2.2.length]),(222,.cxo 222 157 3 q.2.2.2.2 none)],223⟩) Hj (d9 ⟨rfl,rfl,rfl,rfl,rfl,rfl,rfl,rfl,rfl,rfl,trivial⟩ ⟨rfl,⟨rfl,rfl⟩,rfl,⟨rfl,rfl⟩,rfl,⟨rfl,rfl⟩,rfl,⟨rfl,rfl⟩,trivial⟩) ?_
  rintro⟨v13,v14,v15,v16,v17⟩ o H
  try dsimp only
  refine wkz ?_
  refine mf rfl (fun h=>?_) (fun h=>?_)
  ·have H:=bt h H
   refine wkz ?_
   obtain⟨⟨v55,v56,v57,v58⟩,Hj,H⟩:=ob H
   refine qf ⟨[(0,.v (.c (.p 200 0))),(2,.v (.c (.p 220 0))),(3,.v (.c (.p 221 0))),(4,tI (WR (2+r1.1))),(6,tI v13)],[(200,.var 143 [.d false (.l (v55.map eU8)),.d false (.i .i64 v56),.d false (.i .i64 v57)]),(220,.var 26 [.nil]),(221,.var 26 [.wn 222 v58.length]),(222,.cxo 222 157 3 v58 none)],223⟩ ?_ ?_
   ·refine wkz ?_
    refine qd (fun(q:Int×List Int×Int×Int×List (Int×List Int))=>⟨[(0,.v (.c (.p 200 0))),(2,.v (.c (.p 220 0))),(3,.v (.c (.p 221 0))),(4,tI (WR (2+r1.1))),(6,tI v13),(7,tI q.1)],[(200,.var 143 [.d false (.l (q.2.1.map eU8)),.d false (.i .i64 q.2.2.1),.d false (.i .i64 q.2.2.2.1)]),(220,.var 26 [.nil]),(221,.var 26 [.wn 222 q.2.2.2.2.length]),(222,.cxo 222 157 3 q.2.2.2.2 none)],223⟩) Hj (d9 ⟨rfl,rfl,rfl,rfl,rfl,rfl,rfl,rfl,rfl,rfl,rfl,rfl,trivial⟩ ⟨rfl,⟨rfl,rfl⟩,rfl,⟨rfl,rfl⟩,rfl,⟨rfl,rfl⟩,rfl,⟨rfl,rfl⟩,trivial⟩) ?_
    rintro⟨v43,v44,v45,v46,v47⟩ o H
    try dsimp only
    refine wkz ?_
    refine mf rfl (fun h=>?_) (fun h=>?_)
    ·have H:=bt h H
     refine wkz ?_
     obtain⟨⟨v58,v59,v60,v61⟩,Hj,H⟩:=ob H
     refine FF ⟨[(0,.v (.c (.p 200 0))),(2,.v (.c (.p 220 0))),(3,.v (.c (.p 221 0))),(4,tI (WR (2+r1.1))),(6,tI v13),(7,tI v43),(50,tB v58)],[(200,.var 143 [.d false (.l (v59.map eU8)),.d false (.i .i64 v60),.d false (.i .i64 v61)]),(220,.var 26 [.nil]),(221,.var 26 [.wn 222 v47.length]),(222,.cxo 222 157 3 v47 none)],223⟩ ?_ ?_
     ·have H:=Hj
      refine wkz ?_
      refine g2 rfl rfl rfl (fun h=>?_) (fun h=>?_)
      ·have H:=bt h H
       refine wkz ?_
       obtain⟨r62,q62,H⟩:=ob H
       refine js rfl rfl (cK rfl) rfl (cw (o:=200) (fK q62) rfl rfl rfl rfl rfl rfl trivial rfl rfl rfl rfl) ?_
       refine wkz ?_
       refine g2 rfl rfl rfl (fun h=>?_) (fun h=>?_)
       ·have H:=bt h H
        refine wkz ?_
        cases H
        exact d9 ⟨rfl,rfl,rfl,rfl,rfl,rfl,rfl,rfl,rfl,rfl,rfl,rfl,rfl,rfl,trivial⟩ ⟨rfl,⟨rfl,rfl⟩,rfl,⟨rfl,rfl⟩,rfl,⟨rfl,rfl⟩,rfl,⟨rfl,rfl⟩,trivial⟩
       ·have H:=bf h H
        refine wkz ?_
        obtain⟨r63,q63,H⟩:=ob H
        refine js rfl rfl (cK rfl) rfl (cw (o:=200) (fK q63) rfl rfl rfl rfl rfl rfl trivial rfl rfl rfl rfl) ?_
        refine wkz ?_
        cases H
        exact d9 ⟨rfl,rfl,rfl,rfl,rfl,rfl,rfl,rfl,rfl,rfl,rfl,rfl,rfl,rfl,trivial⟩ ⟨rfl,⟨rfl,rfl⟩,rfl,⟨rfl,rfl⟩,rfl,⟨rfl,rfl⟩,rfl,⟨rfl,rfl⟩,trivial⟩
      ·have H:=bf h H
       refine wkz ?_
       obtain⟨r64,q64,H⟩:=ob H
       refine js rfl rfl (cK rfl) rfl (cw (o:=200) (fK q64) rfl rfl rfl rfl rfl rfl trivial rfl rfl rfl rfl) ?_
       refine wkz ?_
       cases H
       exact d9 ⟨rfl,rfl,rfl,rfl,rfl,rfl,rfl,rfl,rfl,rfl,rfl,rfl,rfl,rfl,trivial⟩ ⟨rfl,⟨rfl,rfl⟩,rfl,⟨rfl,rfl⟩,rfl,⟨rfl,rfl⟩,rfl,⟨rfl,rfl⟩,trivial⟩
     refine wkz ?_
     obtain⟨v62,Hj,H⟩:=ob H
     refine sL ⟨[(0,.v (.c (.p 200 0))),(2,.v (.c (.p 220 0))),(3,.v (.c (.p 221 0))),(4,tI (WR (2+r1.1))),(6,tI v13),(7,tI v43)],[(200,.var 143 [.d false (.l (v59.map eU8)),.d false (.i .i64 v60),.d false (.i .i64 v61)]),(220,.var 26 [.nil]),(221,.var 26 [.wn 222 v62.length]),(222,.cxo 222 157 3 v62 none)],223⟩ ?_ ?_
     ·have H:=Hj
      refine wkz ?_
      refine mf rfl (fun h=>?_) (fun h=>?_)
      ·have H:=bt h H
       refine wkz ?_
       obtain⟨r65,q65,H⟩:=ob H
       obtain⟨cJ,hcJ,hJ⟩:=Hq (fb:=v59.map eU8) (fi:=v60) (fh:=v61) q65 rfl
       refine eS rfl (o_inl (m:=[(200,200),(202,220),(203,221),(222,222)]) (m':=[(200,200),(202,220),(203,221),(222,222)]) (nx':=223) Tryz.func196 hcJ (by kernel_rfl) Tryz.ntmps196 rfl hJ rfl rfl rfl rfl rfl rfl rfl rfl rfl rfl rfl) ?_
       refine wkz ?_
       cases H
       refine an (qN (o:=222) (n:=v62.length) rfl rfl (by repeat (first|exact trivial|refine⟨by first|rfl|exact(nK q65).symm|exact nK q65|simp,?_⟩)) (by repeat (first|exact trivial|refine⟨by first|rfl|exact(nK q65).symm|exact nK q65|simp,?_⟩))) ?_
       exact d9 ⟨rfl,rfl,rfl,rfl,rfl,rfl,rfl,rfl,rfl,rfl,rfl,rfl,trivial⟩ ⟨rfl,⟨rfl,rfl⟩,rfl,⟨rfl,rfl⟩,rfl,⟨rfl,rfl⟩,rfl,⟨rfl,rfl⟩,trivial⟩
      ·have H:=bf h H
       refine wkz ?_
       cases H
       exact d9 ⟨rfl,rfl,rfl,rfl,rfl,rfl,rfl,rfl,rfl,rfl,rfl,rfl,trivial⟩ ⟨rfl,⟨rfl,rfl⟩,rfl,⟨rfl,rfl⟩,rfl,⟨rfl,rfl⟩,rfl,⟨rfl,rfl⟩,trivial⟩
     refine wkz ?_
     cases H
     refine dU ?_
     exact d9 ⟨rfl,rfl,rfl,rfl,rfl,rfl,rfl,rfl,rfl,rfl,rfl,rfl,trivial⟩ ⟨rfl,⟨rfl,rfl⟩,rfl,⟨rfl,rfl⟩,rfl,⟨rfl,rfl⟩,rfl,⟨rfl,rfl⟩,trivial⟩
    ·have H:=bf h H
     refine wkz ?_
     cases H
     refine dT (fun hq=>?_)
     cases hq
     refine wkz ?_
     exact d9 ⟨rfl,rfl,rfl,rfl,rfl,rfl,rfl,rfl,rfl,rfl,trivial⟩ ⟨rfl,⟨rfl,rfl⟩,rfl,⟨rfl,rfl⟩,rfl,⟨rfl,rfl⟩,rfl,⟨rfl,rfl⟩,trivial⟩
   refine wkz ?_
   cases H
   refine dU ?_
   exact d9 ⟨rfl,rfl,rfl,rfl,rfl,rfl,rfl,rfl,rfl,rfl,trivial⟩ ⟨rfl,⟨rfl,rfl⟩,rfl,⟨rfl,rfl⟩,rfl,⟨rfl,rfl⟩,rfl,⟨rfl,rfl⟩,trivial⟩
  ·have H:=bf h H
   refine wkz ?_
   cases H
   refine dT (fun hq=>?_)
   cases hq
   refine wkz ?_
   exact d9 ⟨rfl,rfl,rfl,rfl,rfl,rfl,trivial⟩ ⟨rfl,⟨rfl,rfl⟩,rfl,⟨rfl,rfl⟩,rfl,⟨rfl,rfl⟩,rfl,⟨rfl,rfl⟩,trivial⟩
 refine wkz ?_
 obtain⟨v78,Hj,H⟩:=ob H
 refine qf ⟨[(2,.v (.c (.p 220 0))),(3,.v (.c (.p 221 0)))],[(200,.var 143 [.d false (.l (v40.map eU8)),.d false (.i .i64 v41),.d false (.i .i64 v42)]),(220,.var 26 [.nil]),(221,.var 26 [.wn 222 v78.length]),(222,.cxo 222 157 3 v78 none)],223⟩ ?_ ?_
 ·refine wkz ?_
  refine qd (fun(q:Int×List (Int×List Int))=>⟨[(2,.v (.c (.p 220 0))),(3,.v (.c (.p 221 0))),(4,tI (WR (2+r1.1))),(8,tI q.1)],[(200,.var 143 [.d false (.l (v40.map eU8)),.d false (.i .i64 v41),.d false (.i .i64 v42)]),(220,.var 26 [.nil]),(221,.var 26 [.wn 222 q.2.length]),(222,.cxo 222 157 3 q.2 none)],223⟩) Hj (d9 ⟨rfl,rfl,rfl,rfl,rfl,rfl,rfl,rfl,trivial⟩ ⟨rfl,⟨rfl,rfl⟩,rfl,⟨rfl,rfl⟩,rfl,⟨rfl,rfl⟩,rfl,⟨rfl,rfl⟩,trivial⟩) ?_
  rintro⟨v66,v67⟩ o H
  try dsimp only
  refine wkz ?_
  refine mf rfl (fun h=>?_) (fun h=>?_)
  ·have H:=bt h H
   refine wkz ?_
   obtain⟨v84,Hj,H⟩:=ob H
   refine qf ⟨[(2,.v (.c (.p 220 0))),(3,.v (.c (.p 221 0))),(4,tI (WR (2+r1.1))),(8,tI v66),(9,.v (.c (.w 223 v84.length)))],[(200,.var 143 [.d false (.l (v40.map eU8)),.d false (.i .i64 v41),.d false (.i .i64 v42)]),(220,.var 26 [.nil]),(221,.var 26 [.wn 222 v67.length]),(222,.cxo 222 157 3 v67 none),(223,.row 3 1 (v84.map eI) true true)],224⟩ ?_ ?_
   ·refine wkz ?_
    refine qd (fun(q:Int×List Int)=>⟨[(2,.v (.c (.p 220 0))),(3,.v (.c (.p 221 0))),(4,tI (WR (2+r1.1))),(8,tI v66),(9,.v (.c (.w 223 q.2.length))),(10,tI q.1)],[(200,.var 143 [.d false (.l (v40.map eU8)),.d false (.i .i64 v41),.d false (.i .i64 v42)]),(220,.var 26 [.nil]),(221,.var 26 [.wn 222 v67.length]),(222,.cxo 222 157 3 v67 none),(223,.row 3 1 (q.2.map eI) true true)],224⟩) Hj (d9 ⟨rfl,rfl,rfl,rfl,rfl,rfl,rfl,rfl,wn rfl (by first|rfl|simp),rfl,rfl,rfl,trivial⟩ ⟨rfl,⟨rfl,rfl⟩,rfl,⟨rfl,rfl⟩,rfl,⟨rfl,rfl⟩,rfl,⟨rfl,rfl⟩,rfl,⟨rfl,rfl⟩,trivial⟩) ?_
    rintro⟨v79,v80⟩ o H
    try dsimp only
    refine wkz ?_
    refine mf rfl (fun h=>?_) (fun h=>?_)
    ·have H:=bt h H
     refine wkz ?_
     obtain⟨x85,hx85,H⟩:=ob H
     refine rU rfl (mF hx85 rfl rfl rfl rfl) ?_
     refine wkz ?_
     refine rU rfl (olx (ixE hx85).2 rfl rfl rfl) ?_
     refine wkz ?_
     obtain⟨r86,q86,H⟩:=ob H
     refine rU rfl (ca rfl rfl rfl (yx q86) trivial rfl rfl rfl rfl) ?_
     refine wkz ?_
     obtain⟨v87,Hj,H⟩:=ob H
     refine sL ⟨[(2,.v (.c (.p 220 0))),(3,.v (.c (.p 221 0))),(4,tI (WR (2+r1.1))),(8,tI v66),(9,.v (.c (.w 223 v87.length))),(10,tI v79)],[(200,.var 143 [.d false (.l (v40.map eU8)),.d false (.i .i64 v41),.d false (.i .i64 v42)]),(220,.var 26 [.nil]),(221,.var 26 [.wn 222 v67.length]),(222,.cxo 222 157 3 v67 none),(223,.row 3 1 (v87.map eI) true true)],224⟩ ?_ ?_
     ·have H:=Hj
      refine wkz ?_
      refine mf rfl (fun h=>?_) (fun h=>?_)
      ·have H:=bt h H
       refine wkz ?_
       obtain⟨h,H⟩:=rq H
       refine eS rfl (apT (enc:=eI) (ys:=v80) (zs:=[v79]) h) ?_
       refine wkz ?_
       cases H
       exact d9 ⟨rfl,rfl,rfl,rfl,rfl,rfl,rfl,rfl,wn rfl (by first|rfl|simp),rfl,rfl,rfl,trivial⟩ ⟨rfl,⟨rfl,rfl⟩,rfl,⟨rfl,rfl⟩,rfl,⟨rfl,rfl⟩,rfl,⟨rfl,rfl⟩,rfl,⟨rfl,rfl⟩,trivial⟩
      ·have H:=bf h H
       refine wkz ?_
       cases H
       exact d9 ⟨rfl,rfl,rfl,rfl,rfl,rfl,rfl,rfl,wn rfl (by first|rfl|simp),rfl,rfl,rfl,trivial⟩ ⟨rfl,⟨rfl,rfl⟩,rfl,⟨rfl,rfl⟩,rfl,⟨rfl,rfl⟩,rfl,⟨rfl,rfl⟩,rfl,⟨rfl,rfl⟩,trivial⟩
     refine wkz ?_
     cases H
     refine dU ?_
     exact d9 ⟨rfl,rfl,rfl,rfl,rfl,rfl,rfl,rfl,wn rfl (by first|rfl|simp),rfl,rfl,rfl,trivial⟩ ⟨rfl,⟨rfl,rfl⟩,rfl,⟨rfl,rfl⟩,rfl,⟨rfl,rfl⟩,rfl,⟨rfl,rfl⟩,rfl,⟨rfl,rfl⟩,trivial⟩
    ·have H:=bf h H
     refine wkz ?_
     cases H
     refine dT (fun hq=>?_)
     cases hq
     refine wkz ?_
     exact d9 ⟨rfl,rfl,rfl,rfl,rfl,rfl,rfl,rfl,wn rfl (by first|rfl|simp),rfl,trivial⟩ ⟨rfl,⟨rfl,rfl⟩,rfl,⟨rfl,rfl⟩,rfl,⟨rfl,rfl⟩,rfl,⟨rfl,rfl⟩,rfl,⟨rfl,rfl⟩,trivial⟩
   refine wkz ?_
   obtain⟨x88,hx88,H⟩:=ob H
   refine rU rfl (mF hx88 rfl rfl rfl rfl) ?_
   refine wkz ?_
   refine eS rfl (GN (o:=222) (s:=223) (ys:=v84) rfl rfl rfl rfl rfl (ixE hx88).2 (.inl rfl) rfl rfl rfl rfl rfl rfl rfl) ?_
   refine wkz ?_
   cases H
   refine dU ?_
   refine an (qN (o:=222) (n:=(v67.set (v66).toNat (x88.1,v84)).length) rfl rfl (by repeat (first|exact trivial|refine⟨by first|rfl|simp,?_⟩)) (by repeat (first|exact trivial|refine⟨by first|rfl|simp,?_⟩))) ?_
   exact d9 ⟨rfl,rfl,rfl,rfl,rfl,rfl,rfl,rfl,trivial⟩ ⟨rfl,⟨rfl,rfl⟩,rfl,⟨rfl,rfl⟩,rfl,⟨rfl,rfl⟩,rfl,⟨rfl,rfl⟩,trivial⟩
  ·have H:=bf h H
   refine wkz ?_
   cases H
   refine dT (fun hq=>?_)
   cases hq
   refine wkz ?_
   exact d9 ⟨rfl,rfl,rfl,rfl,trivial⟩ ⟨rfl,⟨rfl,rfl⟩,rfl,⟨rfl,rfl⟩,rfl,⟨rfl,rfl⟩,rfl,⟨rfl,rfl⟩,trivial⟩
 refine wkz ?_
 cases H
 refine clo_w (N:=85) ?_ hq
 exact d9 ⟨rfl,rfl,trivial⟩ ⟨rfl,⟨rfl,rfl⟩,rfl,⟨rfl,rfl⟩,rfl,⟨rfl,rfl⟩,trivial⟩
theorem KZ (v:List (Int×List Int)):v.map MZ=(v.map fun e=>(⟨e.1,e.2⟩:fx)).map dW:=by rw[List.map_map];rfl
theorem Bx {a0:aE} {r:aM×aE} (H:xn a0=some r):FnV Tryz.prog 126 [(200,.var 143 [.d false (.l (a0.fb.map eU8)),.d false (.i .i64 a0.fi),.d false (.i .i64 a0.fh)])] [.v (.c (.p 200 0))] [(200,.var 143 [.d false (.l (r.2.fb.map eU8)),.d false (.i .i64 r.2.fi),.d false (.i .i64 r.2.fh)])] (.v (.agg [.wn 210 r.1.aZ.length])) [(210,.rown 157 2 (r.1.aZ.map dW) true)]:=by
 obtain⟨⟨v,cu⟩,hX,H⟩:=ob H
 cases H
 obtain⟨c,hc,h⟩:=Hp hX (AQ:=sE 85 Tryz.prog [ResultVar.cell 2 26] [(200,.var 143 [.d false (.l (cu.fb.map eU8)),.d false (.i .i64 cu.fi),.d false (.i .i64 cu.fh)])] (.v (.agg [.wn 210 (v.map fun e=>(⟨e.1,e.2⟩:fx)).length])) [(210,.rown 157 2 ((v.map fun e=>(⟨e.1,e.2⟩:fx)).map dW) true)]) (by
  refine bV (Jb (o:=222) rfl rfl rfl rfl rfl) ?_
  rw[KZ]
  refine bV (qN (o:=222) (n:=(v.map fun e=>(⟨e.1,e.2⟩:fx)).length) rfl rfl (by repeat (first|exact trivial|refine⟨by first|rfl|simp,?_⟩)) (by repeat (first|exact trivial|refine⟨by first|rfl|simp,?_⟩))) ?_
  refine bV (HN (p:=222) (q:=210) rfl rfl rfl rfl) ?_
  exact bU (.cons (.cell rfl rfl rfl) .nil) rfl (by first|rfl|simp) ⟨rfl,trivial⟩ ⟨rfl,trivial⟩)
 exact M8 Tryz.func126 hc (by kernel_rfl) Tryz.ntmps126 rfl rfl rfl (jr (uG (nx':=220) rfl) h)
end Go.AM
