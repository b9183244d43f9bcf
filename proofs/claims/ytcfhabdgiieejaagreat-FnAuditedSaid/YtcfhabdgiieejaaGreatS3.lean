/- A part. -/
import Derived.Test.YtcfhabdgiieejaaGreatS2
set_option linter.unusedVariables false
open Option renaming bind->abJ
namespace Go.AM
open Go.Proofs
open Tryz
attribute [local irreducible] AWN NS AWO AWR AWC DR DZ dQ f9 iter
set_option maxRecDepth 100000
set_option maxHeartbeats 40000000
def C9:(Int×List Int×bk)->Option (cr (Int×List Int×bk) (List Int×bk))
 |(v4,v8,v9)=>bif ltB v4 4 then(abJ (i8 v9 3) λr17=>abJ (bif r17.1 then(bif da 8 (v8++[v4]).length then(some (v8++[v4])) else none) else(some v8)) λ(v18:List Int)=>some (.next (WR (v4+1),v18,r17.2))) else(some (.done (v8,v9)))
def BH (a0:bk):Option (bR×bk):=
 abJ (cH a0 9) λr1=>abJ (cH r1.2 4) λr2=>abJ (cH r2.2 20) λr3=>abJ (iter (C9) FU (0,([]:List Int),r3.2)) λ((v15,v16):List Int×bk)=>some ((⟨WR (1+r1.1),WR (1+r2.1),WR (1+r3.1),v15⟩:bR),v16)
instance N1 {a0:bk} {r:bR×bk}:FCV prog (BH a0=some r) 140 [(200,.var 125 (kM [.f] (cj a0)))] [tP 200] [(200,.var 125 (kM [.f] (cj r.2)))] (.v (.agg (kM [.n 210] (eH r.1)))) [(210,n3 r.1.bU)]:=⟨λH=>by
 refine fV func140 ntmps140 ?_
 refine aa H λr1 q1 H=>sA (cw (o:=200) (cm q1)) ?_
 refine aa H λr2 q2 H=>sA (cw (o:=200) (cm q2)) ?_
 refine aa H λr3 q3 H=>sA (cw (o:=200) (cm q3)) ?_
 obtain⟨⟨v15,v16⟩,Hj,H⟩:=ob H
 refine jB ⟨[(2,tP 210),(3,tP 211)],(oM [.n 212] 211 85 (eH (⟨WR (1+r1.1),WR (1+r2.1),WR (1+r3.1),v15⟩:bR))++[(200,.var 125 (kM [.f] (cj v16))),(210,.var 85 (kM [.z] (eH pc)))]),213⟩ ?_ ?_
 .refine iT Hj (λq=>⟨[(0,tP 200),(2,tP 210),(3,tP 211),(4,tI q.1)],(oM [.n 212] 211 85 (eH (⟨WR (1+r1.1),WR (1+r2.1),WR (1+r3.1),q.2.1⟩:bR))++[(200,.var 125 (kM [.f] (cj q.2.2))),(210,.var 85 (kM [.z] (eH pc)))]),213⟩) ?_ (by refine am (dE (o:=211) (j:=3) 3 1 true) ?_;refine am (wB 212 (([]:List Int).length)) ?_;exact wo)
  rintro⟨v4,v8,v9⟩ o H
  refine ad ?_
  refine cC H ?_ ?_<;>intro H
  .refine aa H λr17 q17 H=>sA (cw (o:=200) (iN q17)) ?_
   refine aa H λv18 Hj H=>jA ⟨[(0,tP 200),(2,tP 210),(3,tP 211),(4,tI v4)],(oM [.n 212] 211 85 (eH (⟨WR (1+r1.1),WR (1+r2.1),WR (1+r3.1),v18⟩:bR))++[(200,.var 125 (kM [.f] (cj r17.2))),(210,.var 85 (kM [.z] (eH pc)))]),213⟩ ?_ ?_
   .refine cC Hj ?_ ?_<;>intro H
    .obtain⟨h,H⟩:=rq H
     refine sA (AJ (enc:=eI) (ys:=v8) (zs:=[v4]) h (by first|exact List.cons_ne_nil _ _|simp) rfl (λ_=>rfl) (by first|rfl|simp) (.w rfl (by first|rfl|exact lm _|simp)) rfl rfl rfl rfl rfl rfl rfl rfl rfl rfl) ?_
     cases H
     refine am (d8 212) ?_
     exact wo
    exact ai H
   exact aN H
  exact aE H
 cases H
 refine bA (wS 212 210) ?_
 exact bj⟩
def o8 (a0:List aO) (v1:Int):Int->Option (cr (Int) (cr (Int) (Bool)))
 |v4=>bif ltB v4 v1 then(abJ (ix a0 v4) λx5=>abJ (ix a0 v1) λx6=>bif(eqB x5.ID.eb x6.ID.eb&&(eqB x5.ID.bV x6.ID.bV&&true)) then(dn (dn (some false))) else(some (.next (WR (v4+1))))) else(dn (some (.next (WR (v1+1)))))
def o7 (a0:List aO):Int->Option (cr (Int) (Bool))
 |v1=>bif ltB v1 (a0.length:Int) then(abJ (ix a0 v1) λx2=>abJ (eM x2) λr3=>bif !r3 then(dn (some false)) else(iter (o8 a0 v1) FU 0)) else(dn (some (leB (a0.length:Int) 4)))
def ux (a0:List aO):Option Bool:=
 iter (o7 a0) FU 0
instance G9 {a0:List aO} {r:Bool}:FC prog (ux a0=some r) 238 [aL (a0.map dO)] [.c (.d (.b r))]:=gF func238 ntmps238 (hl 0 3) (hl 2 4)
def C0 (r1:Int×bk):(Int×List Int×Int×Int×List Int)->Option (cr (Int×List Int×Int×Int×List Int) (List Int×Int×Int×List Int))
 |(v2,v3,v4,v5,v6)=>bif ltB v2 (WR (2+r1.1)) then(abJ (cH (⟨v3,v4,v5⟩:bk) 2) λr12=>bif da 32 (v6++[r12.1]).length then(some (.next (WR (v2+1),r12.2.fb,r12.2.fi,r12.2.fh,(v6++[r12.1])))) else none) else(some (.done (v3,v4,v5,v6)))
def C5 (v13:Int):(Int×List Int×Int×Int×List (Int×List Int))->Option (cr (Int×List Int×Int×Int×List (Int×List Int)) (List Int×Int×Int×List (Int×List Int)))
 |(v43,v44,v45,v46,v47)=>bif ltB v43 v13 then(abJ (bif eqB v43 (WR (v13-1)) then(abJ (i8 (⟨v44,v45,v46⟩:bk) 5) λr62=>bif !r62.1 then(some (true,r62.2.fb,r62.2.fi,r62.2.fh)) else(abJ (i8 r62.2 4) λr63=>some (r63.1,r63.2.fb,r63.2.fi,r63.2.fh))) else(abJ (i8 (⟨v44,v45,v46⟩:bk) 4) λr64=>some (r64.1,r64.2.fb,r64.2.fi,r64.2.fh))) λ((v58,v59,v60,v61):Bool×List Int×Int×Int)=>abJ (bif v58 then(abJ (vE v47 v43 v13) λr65=>some r65) else(some v47)) λ(v62:List (Int×List Int))=>some (.next (WR (v43+1),v59,v60,v61,v62))) else(some (.done (v44,v45,v46,v47)))
def C4 (r1:Int×bk):(Int×List Int×Int×Int×List (Int×List Int))->Option (cr (Int×List Int×Int×Int×List (Int×List Int)) (List Int×Int×Int×List (Int×List Int)))
 |(v13,v14,v15,v16,v17)=>bif ltB v13 (WR (2+r1.1)) then(abJ (iter (C5 v13) FU (0,v14,v15,v16,v17)) λ((v55,v56,v57,v58):List Int×Int×Int×List (Int×List Int))=>some (.next (WR (v13+1),v55,v56,v57,v58))) else(some (.done (v14,v15,v16,v17)))
def C7 (r1:Int×bk) (v66:Int) (v67:List (Int×List Int)):(Int×List Int)->Option (cr (Int×List Int) (List Int))
 |(v79,v80)=>bif ltB v79 (WR (2+r1.1)) then(abJ (ix v67 v66) λx85=>abJ (BE x85.2 v79) λr86=>abJ (bif r86 then(bif da 8 (v80++[v79]).length then(some (v80++[v79])) else none) else(some v80)) λ(v87:List Int)=>some (.next (WR (v79+1),v87))) else(some (.done v80))
def C6 (r1:Int×bk):(Int×List (Int×List Int))->Option (cr (Int×List (Int×List Int)) (List (Int×List Int)))
 |(v66,v67)=>bif ltB v66 (WR (2+r1.1)) then(abJ (iter (C7 r1 v66 v67) FU (0,([]:List Int))) λ(v84:List Int)=>abJ (ix v67 v66) λx88=>some (.next (WR (v66+1),(v67.set (v66).toNat (x88.1,v84))))) else(some (.done v67))
def zh (a0:bk):Option (List (Int×List Int)×bk):=
 abJ (cH a0 4) λr1=>abJ (iter (C0 r1) FU (0,r1.2.fb,r1.2.fi,r1.2.fh,([]:List Int))) λ((v8,v9,v10,v11):List Int×Int×Int×List Int)=>abJ (iter (C4 r1) FU (1,v8,v9,v10,v11.map λa=>(a,[]))) λ((v40,v41,v42,v43):List Int×Int×Int×List (Int×List Int))=>abJ (iter (C6 r1) FU (0,v43)) λ(v78:List (Int×List Int))=>some (v78,(⟨v40,v41,v42⟩:bk))
def BD (a0:bk):Option (aS×bk):=
 abJ (zh a0) λr=>some ((⟨r.1.map λe=>(⟨e.1,e.2⟩:fc)⟩:aS),r.2)
theorem L9 {a0:bk} {r:List (Int×List Int)×bk} (H:zh a0=some r) {AQ:Exit->St->Prop} [Clo 85 AQ] (hq:AQ .ret ⟨[(2,.v (.c (.p 220 0)))],[(200,.var 125 [.d false (.l (r.2.fb.map eU8)),.d false (.i .i64 r.2.fi),.d false (.i .i64 r.2.fh)]),(220,.var 26 [.wn 222 r.1.length]),(222,.cxo 222 155 3 r.1 none)],223⟩):
 ∃c,Tryz.f142.body=some c/\AWC prog 85 c ⟨[(0,.v (.c (.p 200 0)))],[(200,.var 125 [.d false (.l (a0.fb.map eU8)),.d false (.i .i64 a0.fi),.d false (.i .i64 a0.fh)])],220⟩ AQ:=by
 refine⟨_,rfl,?_⟩
 refine wkz ?_
 refine aa H λr1 q1 H=>jx rfl (cw (o:=200) (cm q1) rfl rfl rfl rfl rfl rfl trivial rfl rfl rfl rfl) ?_
 refine wkz ?_
 obtain⟨⟨v8,v9,v10,v11⟩,Hj,H⟩:=ob H
 refine sI ⟨[(0,.v (.c (.p 200 0))),(2,.v (.c (.p 220 0))),(3,.v (.c (.p 221 0))),(4,tI (WR (2+r1.1)))],[(200,.var 125 [.d false (.l (v8.map eU8)),.d false (.i .i64 v9),.d false (.i .i64 v10)]),(220,.var 26 [.nil]),(221,.var 26 [.wn 222 v11.length]),(222,.rown 155 2 (v11.map ZL) true)],223⟩ ?_ ?_
 .refine wkz ?_
  refine sH (λ(q:Int×List Int×Int×Int×List Int)=>⟨[(0,.v (.c (.p 200 0))),(2,.v (.c (.p 220 0))),(3,.v (.c (.p 221 0))),(4,tI (WR (2+r1.1))),(5,tI q.1)],[(200,.var 125 [.d false (.l (q.2.1.map eU8)),.d false (.i .i64 q.2.2.1),.d false (.i .i64 q.2.2.2.1)]),(220,.var 26 [.nil]),(221,.var 26 [.wn 222 q.2.2.2.2.length]),(222,.rown 155 2 (q.2.2.2.2.map ZL) true)],223⟩) Hj (by refine am (dE (o:=221) (j:=0) 155 2 true rfl rfl rfl rfl rfl) ?_;refine am (vN (o:=222) (n:=([]:List Int).length) rfl rfl (by repeat (first|exact trivial|refine⟨by first|rfl|simp,?_⟩)) (by repeat (first|exact trivial|refine⟨by first|rfl|simp,?_⟩))) ?_;exact eQ ⟨rfl,rfl,rfl,rfl,rfl,rfl,rfl,rfl,rfl,rfl,trivial⟩ ⟨rfl,⟨rfl,rfl⟩,rfl,⟨rfl,rfl⟩,rfl,⟨rfl,rfl⟩,rfl,⟨rfl,rfl⟩,trivial⟩) ?_
  rintro⟨v2,v3,v4,v5,v6⟩ o H
  try dsimp only
  refine wkz ?_
  refine qh rfl (λh=>?_) (λh=>?_)
  .have H:=bt h H
   refine wkz ?_
   refine qR [0,1,2,3,4,5,6,7,8] Try.follows (by kernel_rfl) (by kernel_rfl) rfl ?_
   refine wkz ?_
   refine aa H λr12 q12 H=>B9 rfl (cwx (o:=200) (cm q12) rfl rfl rfl rfl rfl rfl trivial rfl rfl rfl rfl) ?_
   refine jD rfl (bdk rfl rfl rfl rfl) ?_
   refine wkz ?_
   obtain⟨h,H⟩:=rq H
   refine B8 (by kernel_rfl) rfl (by kernel_rfl) bC (fg rfl (AJ (enc:=ZL) (ys:=v6) (zs:=[r12.1]) h (by first|exact List.cons_ne_nil _ _|simp) rfl (λ_=>rfl) (by first|rfl|simp) (.w rfl (by first|rfl|exact lm _|simp)) rfl rfl rfl rfl rfl rfl rfl rfl rfl rfl)) bC rfl ?_
   refine wkz ?_
   refine B9 rfl (spx 100015 rfl rfl rfl rfl rfl rfl rfl rfl) ?_
   refine wkz ?_
   cases H
   refine sV ?_
   refine am (d8 222 rfl rfl rfl) ?_
   exact eQ ⟨rfl,rfl,rfl,rfl,rfl,rfl,rfl,rfl,rfl,rfl,trivial⟩ ⟨rfl,⟨rfl,rfl⟩,rfl,⟨rfl,rfl⟩,rfl,⟨rfl,rfl⟩,rfl,⟨rfl,rfl⟩,trivial⟩
  have H:=bf h H
  refine wkz ?_
  cases H
  refine E4 (λhq=>?_)
  cases hq
  refine wkz ?_
  exact eQ ⟨rfl,rfl,rfl,rfl,rfl,rfl,rfl,rfl,trivial⟩ ⟨rfl,⟨rfl,rfl⟩,rfl,⟨rfl,rfl⟩,rfl,⟨rfl,rfl⟩,rfl,⟨rfl,rfl⟩,trivial⟩
 refine wkz ?_
 refine nQ (YK (o:=222) (nt:=3) (al:=v11) rfl rfl) ?_
 refine nQ (vN (o:=222) (n:=(v11.map λa=>((a,[]):Int×List Int)).length) rfl rfl (by repeat (first|exact trivial|refine⟨by first|rfl|simp,?_⟩)) (by repeat (first|exact trivial|refine⟨by first|rfl|simp,?_⟩))) ?_
 obtain⟨⟨v40,v41,v42,v43⟩,Hj,H⟩:=ob H
 refine sI ⟨[(2,.v (.c (.p 220 0))),(3,.v (.c (.p 221 0))),(4,tI (WR (2+r1.1)))],[(200,.var 125 [.d false (.l (v40.map eU8)),.d false (.i .i64 v41),.d false (.i .i64 v42)]),(220,.var 26 [.nil]),(221,.var 26 [.wn 222 v43.length]),(222,.cxo 222 155 3 v43 none)],223⟩ ?_ ?_
 .refine wkz ?_
  refine sH (λ(q:Int×List Int×Int×Int×List (Int×List Int))=>⟨[(0,.v (.c (.p 200 0))),(2,.v (.c (.p 220 0))),(3,.v (.c (.p 221 0))),(4,tI (WR (2+r1.1))),(6,tI q.1)],[(200,.var 125 [.d false (.l (q.2.1.map eU8)),.d false (.i .i64 q.2.2.1),.d false (.i .i64 q.2.2.2.1)]),(220,.var 26 [.nil]),(221,.var 26 [.wn 222 q.2.2.2.2.length]),(222,.cxo 222 155 3 q.2.2.2.2 none)],223⟩) Hj (eQ ⟨rfl,rfl,rfl,rfl,rfl,rfl,rfl,rfl,rfl,rfl,trivial⟩ ⟨rfl,⟨rfl,rfl⟩,rfl,⟨rfl,rfl⟩,rfl,⟨rfl,rfl⟩,rfl,⟨rfl,rfl⟩,trivial⟩) ?_
  rintro⟨v13,v14,v15,v16,v17⟩ o H
  try dsimp only
  refine wkz ?_
  refine qh rfl (λh=>?_) (λh=>?_)
  .have H:=bt h H
   refine wkz ?_
   obtain⟨⟨v55,v56,v57,v58⟩,Hj,H⟩:=ob H
   refine sI ⟨[(0,.v (.c (.p 200 0))),(2,.v (.c (.p 220 0))),(3,.v (.c (.p 221 0))),(4,tI (WR (2+r1.1))),(6,tI v13)],[(200,.var 125 [.d false (.l (v55.map eU8)),.d false (.i .i64 v56),.d false (.i .i64 v57)]),(220,.var 26 [.nil]),(221,.var 26 [.wn 222 v58.length]),(222,.cxo 222 155 3 v58 none)],223⟩ ?_ ?_
   .refine wkz ?_
    refine sH (λ(q:Int×List Int×Int×Int×List (Int×List Int))=>⟨[(0,.v (.c (.p 200 0))),(2,.v (.c (.p 220 0))),(3,.v (.c (.p 221 0))),(4,tI (WR (2+r1.1))),(6,tI v13),(7,tI q.1)],[(200,.var 125 [.d false (.l (q.2.1.map eU8)),.d false (.i .i64 q.2.2.1),.d false (.i .i64 q.2.2.2.1)]),(220,.var 26 [.nil]),(221,.var 26 [.wn 222 q.2.2.2.2.length]),(222,.cxo 222 155 3 q.2.2.2.2 none)],223⟩) Hj (eQ ⟨rfl,rfl,rfl,rfl,rfl,rfl,rfl,rfl,rfl,rfl,rfl,rfl,trivial⟩ ⟨rfl,⟨rfl,rfl⟩,rfl,⟨rfl,rfl⟩,rfl,⟨rfl,rfl⟩,rfl,⟨rfl,rfl⟩,trivial⟩) ?_
    rintro⟨v43,v44,v45,v46,v47⟩ o H
    try dsimp only
    refine wkz ?_
    refine qh rfl (λh=>?_) (λh=>?_)
    .have H:=bt h H
     refine wkz ?_
     obtain⟨⟨v58,v59,v60,v61⟩,Hj,H⟩:=ob H
     refine D9 ⟨[(0,.v (.c (.p 200 0))),(2,.v (.c (.p 220 0))),(3,.v (.c (.p 221 0))),(4,tI (WR (2+r1.1))),(6,tI v13),(7,tI v43),(50,tB v58)],[(200,.var 125 [.d false (.l (v59.map eU8)),.d false (.i .i64 v60),.d false (.i .i64 v61)]),(220,.var 26 [.nil]),(221,.var 26 [.wn 222 v47.length]),(222,.cxo 222 155 3 v47 none)],223⟩ ?_ ?_
     .have H:=Hj
      refine wkz ?_
      refine g2 rfl rfl rfl (λh=>?_) (λh=>?_)
      .have H:=bt h H
       refine wkz ?_
       refine aa H λr62 q62 H=>mz rfl rfl (dt rfl) rfl (cw (o:=200) (iN q62) rfl rfl rfl rfl rfl rfl trivial rfl rfl rfl rfl) ?_
       refine wkz ?_
       refine g2 rfl rfl rfl (λh=>?_) (λh=>?_)
       .have H:=bt h H
        refine wkz ?_
        cases H
        exact eQ ⟨rfl,rfl,rfl,rfl,rfl,rfl,rfl,rfl,rfl,rfl,rfl,rfl,rfl,rfl,trivial⟩ ⟨rfl,⟨rfl,rfl⟩,rfl,⟨rfl,rfl⟩,rfl,⟨rfl,rfl⟩,rfl,⟨rfl,rfl⟩,trivial⟩
       have H:=bf h H
       refine wkz ?_
       refine aa H λr63 q63 H=>mz rfl rfl (dt rfl) rfl (cw (o:=200) (iN q63) rfl rfl rfl rfl rfl rfl trivial rfl rfl rfl rfl) ?_
       refine wkz ?_
       cases H
       exact eQ ⟨rfl,rfl,rfl,rfl,rfl,rfl,rfl,rfl,rfl,rfl,rfl,rfl,rfl,rfl,trivial⟩ ⟨rfl,⟨rfl,rfl⟩,rfl,⟨rfl,rfl⟩,rfl,⟨rfl,rfl⟩,rfl,⟨rfl,rfl⟩,trivial⟩
      have H:=bf h H
      refine wkz ?_
      refine aa H λr64 q64 H=>mz rfl rfl (dt rfl) rfl (cw (o:=200) (iN q64) rfl rfl rfl rfl rfl rfl trivial rfl rfl rfl rfl) ?_
      refine wkz ?_
      cases H
      exact eQ ⟨rfl,rfl,rfl,rfl,rfl,rfl,rfl,rfl,rfl,rfl,rfl,rfl,rfl,rfl,trivial⟩ ⟨rfl,⟨rfl,rfl⟩,rfl,⟨rfl,rfl⟩,rfl,⟨rfl,rfl⟩,rfl,⟨rfl,rfl⟩,trivial⟩
     refine wkz ?_
     refine aa H λv62 Hj H=>va ⟨[(0,.v (.c (.p 200 0))),(2,.v (.c (.p 220 0))),(3,.v (.c (.p 221 0))),(4,tI (WR (2+r1.1))),(6,tI v13),(7,tI v43)],[(200,.var 125 [.d false (.l (v59.map eU8)),.d false (.i .i64 v60),.d false (.i .i64 v61)]),(220,.var 26 [.nil]),(221,.var 26 [.wn 222 v62.length]),(222,.cxo 222 155 3 v62 none)],223⟩ ?_ ?_
     .have H:=Hj
      refine wkz ?_
      refine qh rfl (λh=>?_) (λh=>?_)
      .have H:=bt h H
       refine wkz ?_
       obtain⟨r65,q65,H⟩:=ob H
       obtain⟨cJ,hcJ,hJ⟩:=Ma (fb:=v59.map eU8) (fi:=v60) (fh:=v61) q65 rfl
       refine jx rfl (o_inl (m:=[(200,200),(202,220),(203,221),(222,222)]) (m':=[(200,200),(202,220),(203,221),(222,222)]) (nx':=223) func242 hcJ (by kernel_rfl) ntmps242 rfl hJ rfl rfl rfl rfl rfl rfl rfl rfl rfl rfl rfl) ?_
       refine wkz ?_
       cases H
       refine am (vN (o:=222) (n:=v62.length) rfl rfl (by repeat (first|exact trivial|refine⟨by first|rfl|exact(rY q65).symm|exact rY q65|simp,?_⟩)) (by repeat (first|exact trivial|refine⟨by first|rfl|exact(rY q65).symm|exact rY q65|simp,?_⟩))) ?_
       exact eQ ⟨rfl,rfl,rfl,rfl,rfl,rfl,rfl,rfl,rfl,rfl,rfl,rfl,trivial⟩ ⟨rfl,⟨rfl,rfl⟩,rfl,⟨rfl,rfl⟩,rfl,⟨rfl,rfl⟩,rfl,⟨rfl,rfl⟩,trivial⟩
      have H:=bf h H
      refine wkz ?_
      cases H
      exact eQ ⟨rfl,rfl,rfl,rfl,rfl,rfl,rfl,rfl,rfl,rfl,rfl,rfl,trivial⟩ ⟨rfl,⟨rfl,rfl⟩,rfl,⟨rfl,rfl⟩,rfl,⟨rfl,rfl⟩,rfl,⟨rfl,rfl⟩,trivial⟩
     refine wkz ?_
     cases H
     refine sV ?_
     exact eQ ⟨rfl,rfl,rfl,rfl,rfl,rfl,rfl,rfl,rfl,rfl,rfl,rfl,trivial⟩ ⟨rfl,⟨rfl,rfl⟩,rfl,⟨rfl,rfl⟩,rfl,⟨rfl,rfl⟩,rfl,⟨rfl,rfl⟩,trivial⟩
    have H:=bf h H
    refine wkz ?_
    cases H
    refine E4 (λhq=>?_)
    cases hq
    refine wkz ?_
    exact eQ ⟨rfl,rfl,rfl,rfl,rfl,rfl,rfl,rfl,rfl,rfl,trivial⟩ ⟨rfl,⟨rfl,rfl⟩,rfl,⟨rfl,rfl⟩,rfl,⟨rfl,rfl⟩,rfl,⟨rfl,rfl⟩,trivial⟩
   refine wkz ?_
   cases H
   refine sV ?_
   exact eQ ⟨rfl,rfl,rfl,rfl,rfl,rfl,rfl,rfl,rfl,rfl,trivial⟩ ⟨rfl,⟨rfl,rfl⟩,rfl,⟨rfl,rfl⟩,rfl,⟨rfl,rfl⟩,rfl,⟨rfl,rfl⟩,trivial⟩
  have H:=bf h H
  refine wkz ?_
  cases H
  refine E4 (λhq=>?_)
  cases hq
  refine wkz ?_
  exact eQ ⟨rfl,rfl,rfl,rfl,rfl,rfl,trivial⟩ ⟨rfl,⟨rfl,rfl⟩,rfl,⟨rfl,rfl⟩,rfl,⟨rfl,rfl⟩,rfl,⟨rfl,rfl⟩,trivial⟩
 refine wkz ?_
 refine aa H λv78 Hj H=>sI ⟨[(2,.v (.c (.p 220 0))),(3,.v (.c (.p 221 0)))],[(200,.var 125 [.d false (.l (v40.map eU8)),.d false (.i .i64 v41),.d false (.i .i64 v42)]),(220,.var 26 [.nil]),(221,.var 26 [.wn 222 v78.length]),(222,.cxo 222 155 3 v78 none)],223⟩ ?_ ?_
 .refine wkz ?_
  refine sH (λ(q:Int×List (Int×List Int))=>⟨[(2,.v (.c (.p 220 0))),(3,.v (.c (.p 221 0))),(4,tI (WR (2+r1.1))),(8,tI q.1)],[(200,.var 125 [.d false (.l (v40.map eU8)),.d false (.i .i64 v41),.d false (.i .i64 v42)]),(220,.var 26 [.nil]),(221,.var 26 [.wn 222 q.2.length]),(222,.cxo 222 155 3 q.2 none)],223⟩) Hj (eQ ⟨rfl,rfl,rfl,rfl,rfl,rfl,rfl,rfl,trivial⟩ ⟨rfl,⟨rfl,rfl⟩,rfl,⟨rfl,rfl⟩,rfl,⟨rfl,rfl⟩,rfl,⟨rfl,rfl⟩,trivial⟩) ?_
  rintro⟨v66,v67⟩ o H
  try dsimp only
  refine wkz ?_
  refine qh rfl (λh=>?_) (λh=>?_)
  .have H:=bt h H
   refine wkz ?_
   refine aa H λv84 Hj H=>sI ⟨[(2,.v (.c (.p 220 0))),(3,.v (.c (.p 221 0))),(4,tI (WR (2+r1.1))),(8,tI v66),(9,.v (.c (.w 223 v84.length)))],[(200,.var 125 [.d false (.l (v40.map eU8)),.d false (.i .i64 v41),.d false (.i .i64 v42)]),(220,.var 26 [.nil]),(221,.var 26 [.wn 222 v67.length]),(222,.cxo 222 155 3 v67 none),(223,.row 3 1 (v84.map eI) true true)],224⟩ ?_ ?_
   .refine wkz ?_
    refine sH (λ(q:Int×List Int)=>⟨[(2,.v (.c (.p 220 0))),(3,.v (.c (.p 221 0))),(4,tI (WR (2+r1.1))),(8,tI v66),(9,.v (.c (.w 223 q.2.length))),(10,tI q.1)],[(200,.var 125 [.d false (.l (v40.map eU8)),.d false (.i .i64 v41),.d false (.i .i64 v42)]),(220,.var 26 [.nil]),(221,.var 26 [.wn 222 v67.length]),(222,.cxo 222 155 3 v67 none),(223,.row 3 1 (q.2.map eI) true true)],224⟩) Hj (eQ ⟨rfl,rfl,rfl,rfl,rfl,rfl,rfl,rfl,wn rfl (by first|rfl|simp),rfl,rfl,rfl,trivial⟩ ⟨rfl,⟨rfl,rfl⟩,rfl,⟨rfl,rfl⟩,rfl,⟨rfl,rfl⟩,rfl,⟨rfl,rfl⟩,rfl,⟨rfl,rfl⟩,trivial⟩) ?_
    rintro⟨v79,v80⟩ o H
    try dsimp only
    refine wkz ?_
    refine qh rfl (λh=>?_) (λh=>?_)
    .have H:=bt h H
     refine wkz ?_
     refine aa H λx85 hx85 H=>tF rfl (qL hx85 rfl rfl rfl rfl) ?_
     refine wkz ?_
     refine tF rfl (olx (ixE hx85).2 rfl rfl rfl) ?_
     refine wkz ?_
     refine aa H λr86 q86 H=>tF rfl (ca rfl rfl rfl (RR.h q86) trivial rfl rfl rfl rfl) ?_
     refine wkz ?_
     refine aa H λv87 Hj H=>va ⟨[(2,.v (.c (.p 220 0))),(3,.v (.c (.p 221 0))),(4,tI (WR (2+r1.1))),(8,tI v66),(9,.v (.c (.w 223 v87.length))),(10,tI v79)],[(200,.var 125 [.d false (.l (v40.map eU8)),.d false (.i .i64 v41),.d false (.i .i64 v42)]),(220,.var 26 [.nil]),(221,.var 26 [.wn 222 v67.length]),(222,.cxo 222 155 3 v67 none),(223,.row 3 1 (v87.map eI) true true)],224⟩ ?_ ?_
     .have H:=Hj
      refine wkz ?_
      refine qh rfl (λh=>?_) (λh=>?_)
      .have H:=bt h H
       refine wkz ?_
       obtain⟨h,H⟩:=rq H
       refine jx rfl (apT (enc:=eI) (ys:=v80) (zs:=[v79]) h) ?_
       refine wkz ?_
       cases H
       exact eQ ⟨rfl,rfl,rfl,rfl,rfl,rfl,rfl,rfl,wn rfl (by first|rfl|simp),rfl,rfl,rfl,trivial⟩ ⟨rfl,⟨rfl,rfl⟩,rfl,⟨rfl,rfl⟩,rfl,⟨rfl,rfl⟩,rfl,⟨rfl,rfl⟩,rfl,⟨rfl,rfl⟩,trivial⟩
      have H:=bf h H
      refine wkz ?_
      cases H
      exact eQ ⟨rfl,rfl,rfl,rfl,rfl,rfl,rfl,rfl,wn rfl (by first|rfl|simp),rfl,rfl,rfl,trivial⟩ ⟨rfl,⟨rfl,rfl⟩,rfl,⟨rfl,rfl⟩,rfl,⟨rfl,rfl⟩,rfl,⟨rfl,rfl⟩,rfl,⟨rfl,rfl⟩,trivial⟩
     refine wkz ?_
     cases H
     refine sV ?_
     exact eQ ⟨rfl,rfl,rfl,rfl,rfl,rfl,rfl,rfl,wn rfl (by first|rfl|simp),rfl,rfl,rfl,trivial⟩ ⟨rfl,⟨rfl,rfl⟩,rfl,⟨rfl,rfl⟩,rfl,⟨rfl,rfl⟩,rfl,⟨rfl,rfl⟩,rfl,⟨rfl,rfl⟩,trivial⟩
    have H:=bf h H
    refine wkz ?_
    cases H
    refine E4 (λhq=>?_)
    cases hq
    refine wkz ?_
    exact eQ ⟨rfl,rfl,rfl,rfl,rfl,rfl,rfl,rfl,wn rfl (by first|rfl|simp),rfl,trivial⟩ ⟨rfl,⟨rfl,rfl⟩,rfl,⟨rfl,rfl⟩,rfl,⟨rfl,rfl⟩,rfl,⟨rfl,rfl⟩,rfl,⟨rfl,rfl⟩,trivial⟩
   refine wkz ?_
   refine aa H λx88 hx88 H=>tF rfl (qL hx88 rfl rfl rfl rfl) ?_
   refine wkz ?_
   refine jx rfl (Lz (o:=222) (s:=223) (ys:=v84) rfl rfl rfl rfl rfl (ixE hx88).2 (.inl rfl) rfl rfl rfl rfl rfl rfl rfl) ?_
   refine wkz ?_
   cases H
   refine sV ?_
   refine am (vN (o:=222) (n:=(v67.set (v66).toNat (x88.1,v84)).length) rfl rfl (by repeat (first|exact trivial|refine⟨by first|rfl|simp,?_⟩)) (by repeat (first|exact trivial|refine⟨by first|rfl|simp,?_⟩))) ?_
   exact eQ ⟨rfl,rfl,rfl,rfl,rfl,rfl,rfl,rfl,trivial⟩ ⟨rfl,⟨rfl,rfl⟩,rfl,⟨rfl,rfl⟩,rfl,⟨rfl,rfl⟩,rfl,⟨rfl,rfl⟩,trivial⟩
  have H:=bf h H
  refine wkz ?_
  cases H
  refine E4 (λhq=>?_)
  cases hq
  refine wkz ?_
  exact eQ ⟨rfl,rfl,rfl,rfl,trivial⟩ ⟨rfl,⟨rfl,rfl⟩,rfl,⟨rfl,rfl⟩,rfl,⟨rfl,rfl⟩,rfl,⟨rfl,rfl⟩,trivial⟩
 refine wkz ?_
 cases H
 refine clo_w (N:=85) ?_ hq
 exact eQ ⟨rfl,rfl,trivial⟩ ⟨rfl,⟨rfl,rfl⟩,rfl,⟨rfl,rfl⟩,rfl,⟨rfl,rfl⟩,trivial⟩
theorem QA (v:List (Int×List Int)):v.map TO=(v.map λe=>(⟨e.1,e.2⟩:fc)).map eO:=by rw[List.map_map];rfl
instance FZ {a0:bk} {r:aS×bk}:FCV prog (BD a0=some r) 142 [(200,.var 125 [.d false (.l (a0.fb.map eU8)),.d false (.i .i64 a0.fi),.d false (.i .i64 a0.fh)])] [.v (.c (.p 200 0))] [(200,.var 125 [.d false (.l (r.2.fb.map eU8)),.d false (.i .i64 r.2.fi),.d false (.i .i64 r.2.fh)])] (.v (.agg [.wn 210 r.1.bb.length])) [(210,.rown 155 2 (r.1.bb.map eO) true)]:=⟨λH=>by
 obtain⟨⟨v,cu⟩,hX,H⟩:=ob H
 cases H
 obtain⟨c,hc,h⟩:=L9 hX (AQ:=xt 85 prog [ResultVar.cell 2 26] [(200,.var 125 [.d false (.l (cu.fb.map eU8)),.d false (.i .i64 cu.fi),.d false (.i .i64 cu.fh)])] (.v (.agg [.wn 210 (v.map λe=>(⟨e.1,e.2⟩:fc)).length])) [(210,.rown 155 2 ((v.map λe=>(⟨e.1,e.2⟩:fc)).map eO) true)]) (by
  refine bA (On (o:=222) rfl rfl rfl rfl rfl) ?_
  rw[QA]
  refine bA (vN (o:=222) (n:=(v.map λe=>(⟨e.1,e.2⟩:fc)).length) rfl rfl (by repeat (first|exact trivial|refine⟨by first|rfl|simp,?_⟩)) (by repeat (first|exact trivial|refine⟨by first|rfl|simp,?_⟩))) ?_
  refine bA (Mw (p:=222) (q:=210) rfl rfl rfl rfl) ?_
  exact bj (.cons (.cell rfl rfl rfl) .nil) rfl (by first|rfl|simp) ⟨rfl,trivial⟩ ⟨rfl,trivial⟩)
 exact TZ func142 hc (by kernel_rfl) ntmps142 rfl rfl rfl (nQ (uI (nx':=220) rfl) h)⟩
def tu:(Int×List aO×bk)->Option (cr (Int×List aO×bk) (List aO×bk))
 |(v2,v6,v7)=>bif ltB 0 v2 then(abJ (AD v7) λr15=>abJ (cH r15.2 20) λr16=>bif da 32 (v6++[(⟨(⟨1,v2⟩:dv),r15.1,r16.1⟩:aO)]).length then(some (.next (WR (v2-1),(v6++[(⟨(⟨1,v2⟩:dv),r15.1,r16.1⟩:aO)]),r16.2))) else none) else(some (.done (v6,v7)))
def nh (a0:bk):Option (List aO×bk):=
 abJ (cH a0 3) λr1=>abJ (iter (tu) FU (WR (1+r1.1),([]:List aO),r1.2)) λ((v13,v14):List aO×bk)=>some (v13,v14)
theorem uy {a0:bk} {r:List aO×bk} (H:nh a0=some r):FnW prog 143 (.var 125 (kM [.f] (cj a0))) [tP 200] (.var 125 (kM [.f] (cj r.2))) [.c (.own 82 4 (r.1.map dO) r.1.length)]:=by
 refine fW func143 ntmps143 ?_
 refine aa H λr1 q1 H=>sA (cw (o:=200) (cm q1)) ?_
 obtain⟨⟨v13,v14⟩,Hj,H⟩:=ob H
 refine jB ⟨[(3,.v (.c (.w 210 v13.length)))],[(200,.var 125 (kM [.f] (cj v14))),(210,w82 v13)],211⟩ ?_ ?_
 .refine iT Hj (λq=>⟨[(0,tP 200),(3,.v (.c (.w 210 q.2.1.length))),(4,tI q.1)],[(200,.var 125 (kM [.f] (cj q.2.2))),(210,w82 q.2.1)],211⟩) ?_
  rintro⟨v2,v6,v7⟩ o H
  refine ad ?_
  refine cC H ?_ ?_<;>intro H
  .refine aa H λr15 q15 H=>sA (cw (o:=200) (Me q15)) ?_
   refine aa H λr16 q16 H=>sA (cw (o:=200) (cm q16)) ?_
   obtain⟨h,H⟩:=rq H
   refine sA (apT (enc:=dO) (ys:=v6) (zs:=[(⟨(⟨1,v2⟩:dv),r15.1,r16.1⟩:aO)]) h) ?_
   exact aN H
  exact aE H
 cases H
 exact f8
def mO (a0:ah) (a1:List Int):Option (ah×Bool):=
 abJ (i9 a0) λr1=>abJ (bif leB 24 (a0.aH.length:Int) then(some true) else(some (ltB 60 (a1.length:Int)))) λ(v2:Bool)=>bif v2 then(some (r1,false)) else(abJ (F4 a1) λr3=>bif da 24 (r1.aH++[r3]).length then(some ({r1 with aH:=(r1.aH++[r3])},true)) else none)
instance xh {a0:ah} {a1:List Int} {r:ah×Bool}:FC prog (mO a0 a1=some r) 144 [.agg (bS a0),aL (a1.map eU8)] [.agg (qM [.o,.o,.o] (c7 r.1)),.c (.d (.b r.2))]:=⟨λH=>by
 refine fI func144 ntmps144 ?_
 refine aa H λr1 q1 H=>nA (ca (hF:=AB.h q1)) ?_
 refine aa H λv2 Hj H=>jR ⟨[(1,.v (.c (.d false (.l (a1.map eU8))))),(4,tP 1),(6,tP 5),(17,tB v2)],(oM [.w 2,.w 3,.w 4] 5 93 (c7 r1)++[(1,.var 93 (kM [.z,.z,.z] (c7 pP)))]),6⟩ ?_ ?_
 .exact az Hj
 refine cC H ?_ ?_<;>intro H
 .exact ao H
 refine zI (List.range 8) ?_
 refine aa H λr3 q3 H=>zA (ca (hF:=(N4.h q3).frzs (by repeat (first|exact trivial|refine⟨?_,?_⟩|exact lm _|rfl)))) ?_
 obtain⟨h,H⟩:=rq H
 refine zB bC (fg rfl (apT (enc:=dN) (ys:=r1.aH) (zs:=[r3]) h)) bC ?_
 refine wA (spx 100246) ?_
 cases H
 exact dM⟩
def tj (a0:aG):Option aX:=
 abJ (kE a0) λr1=>some (⟨r1,([]:List aF)⟩:aX)
instance sl29None_c {a0:aG} {r:aX}:FC prog (tj a0=some r) 245 [.agg (cF a0)] [.agg (qM [.o,.o,.o] (dm r))]:=gF func245 ntmps245
end Go.AM
