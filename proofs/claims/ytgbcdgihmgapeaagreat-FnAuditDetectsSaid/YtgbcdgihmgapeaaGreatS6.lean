/- A part. -/
import Derived.Test.YtgbcdgihmgapeaaGreatS1
import Derived.Test.YtgbcdgihmgapeaaGreatS3
import Derived.Test.YtgbcdgihmgapeaaGreatS4
set_option linter.unusedVariables false
open Option renaming some->ς,none->ξ
open Bool renaming true->ζ,false->η
open True renaming intro->θ
open Option renaming bind->abd
namespace Go.AM
open Go.Proofs
open Tryz
attribute [local irreducible] AWN NS AWO AWR AWC DR DZ cB eZ iter
set_option maxRecDepth 100000
set_option maxHeartbeats 40000000
def gL(a0:aV)(a2:Int):(Int×List Int)->Option (ct (Int×List Int) (List Int))
 |(v3,v4)=>abd (cond (ltB v3 (a0.bp.length:Int)) (abd (cQ a2 1 4) λr9=>ς r9) (ς η)) λ(v8:Bool)=>cond v8 (cond (cW 8 (v4++[v3]).length) (ς (.next (WR (v3+1),(v4++[v3])))) ξ) (ς (.done v4))
def pt(a0:aV)(a1:Int)(a2:Int):Option (List Int):=
 abd (pk a0 a1) λr1=>abd (cond (eqB a2 1) (ς (ltB 0 (r1.length:Int))) (ς η)) λ(v2:Bool)=>cond v2 (ς r1) (abd (iter (gL a0 a2) FU (0,([]:List Int))) λ(v7:List Int)=>ς v7)
instance SJ{a0:aV}{a1:Int}{a2:Int}{r:List Int}:FC prog (pt a0 a1 a2=ς r) 201 [.agg (js a0),aI a1,aI a2] [.c (.own 3 1 (r.map eI) r.length)]:=gG func201 ntmps201 (hb 15 19) (hL 0 (λ(v:Int×List Int) sl ob nx=>⟨(8,.v (.c (.w 2 v.2.length)))::(9,tI v.1)::xS [2] sl,[(2,w3 v.2)]++ob,nx⟩)) (hB 0 (λ(v:List Int) sl ob nx=>⟨(8,.v (.c (.w 2 v.length)))::(9,.any)::xS [2] sl,[(2,w3 v)]++ob,nx⟩)) (hb 27 30)
def rE(a0:cP)(a1:aV):Option (cP×List Int):=
 cond (ltB 0 a0.gE) (ς ({a0 with gE:=WR (a0.gE-1)},([]:List Int))) (abd (cond (ltB a0.eS 4) (ς (WR (a0.eS+1))) (ς 1)) λ(v1:Int)=>abd (pt a1 a0.gB v1) λr2=>ς ((⟨a0.gB,v1,3⟩:cP),r2))
instance Um{a0:cP}{a1:aV}{r:cP×List Int}:FC prog (rE a0 a1=ς r) 170 [.agg (sC a0),.agg (js a1)] [.agg (qM [] (sD r.1)),.c (.own 3 1 (r.2.map eI) r.2.length)]:=gG func170 ntmps170 (hC 20 (λ(v:Int) sl ob nx=>⟨sl,[(3,.var 81 (kM [] (sD {a0 with eS:=v})))]++ob,nx⟩)) (hz 9)
def z6(a0:Int)(a1:bR):Option Int:=
 abd (pj a1.bb) λr1=>cond (cW 8 ([a1.dE,a1.ga]++r1).length) (abd (ed a0 ([a1.dE,a1.ga]++r1)) λr2=>ς r2) ξ
instance sl8Mac_c{a0:Int}{a1:bR}{r:Int}:FC prog (z6 a0 a1=ς r) 188 [aI a0,.agg (f9 a1)] [.c (.d (.i .i64 r))]:=⟨λH=>by
 refine fI func188 ntmps188 ?_
 refine zI (List.range 12) ?_
 refine aa H λr1 q1 H=>zA (ca (hF:=Cr.h q1)) ?_
 obtain⟨h,H⟩:=rq H
 refine wA (E5 (enc:=eI) (ys:=[a1.dE,a1.ga]) (zs:=r1) [1,2] h) ?_
 refine aa H λr2 q2 H=>zA (ca (hF:=Gd.h q2)) ?_
 refine oZ (ds:=[1]) (by kernel_rfl) (by kernel_rfl) rfl ?_
 refine wI ?_
 cases H
 exact kn⟩
def qD(a0:Int)(a1:bR):Option Bool:=
 abd (z6 a0 a1) λr1=>ς (eqB a1.jD r1)
instance VT{a0:Int}{a1:bR}{r:Bool}:FC prog (qD a0 a1=ς r) 198 [aI a0,.agg (f9 a1)] [.c (.d (.b r))]:=gG func198 ntmps198
def Am(r1:Int×aT):(Int×List Int×Int×Int×List Int)->Option (ct (Int×List Int×Int×Int×List Int) (List Int×Int×Int×List Int))
 |(v2,v3,v4,v5,v6)=>cond (ltB v2 (WR (2+r1.1))) (abd (cj (⟨v3,v4,v5⟩:aT) 2) λr12=>cond (cW 32 (v6++[r12.1]).length) (ς (.next (WR (v2+1),r12.2.fb,r12.2.fi,r12.2.fh,(v6++[r12.1])))) ξ) (ς (.done (v3,v4,v5,v6)))
def Ao(v13:Int):(Int×List Int×Int×Int×List (Int×List Int))->Option (ct (Int×List Int×Int×Int×List (Int×List Int)) (List Int×Int×Int×List (Int×List Int)))
 |(v43,v44,v45,v46,v47)=>cond (ltB v43 v13) (abd (cond (eqB v43 (WR (v13-1))) (abd (gY (⟨v44,v45,v46⟩:aT) 5) λr62=>cond (!r62.1) (ς (ζ,r62.2.fb,r62.2.fi,r62.2.fh)) (abd (gY r62.2 4) λr63=>ς (r63.1,r63.2.fb,r63.2.fi,r63.2.fh))) (abd (gY (⟨v44,v45,v46⟩:aT) 4) λr64=>ς (r64.1,r64.2.fb,r64.2.fi,r64.2.fh))) λ((v58,v59,v60,v61):Bool×List Int×Int×Int)=>abd (cond v58 (abd (tl v47 v43 v13) λr65=>ς r65) (ς v47)) λ(v62:List (Int×List Int))=>ς (.next (WR (v43+1),v59,v60,v61,v62))) (ς (.done (v44,v45,v46,v47)))
def An(r1:Int×aT):(Int×List Int×Int×Int×List (Int×List Int))->Option (ct (Int×List Int×Int×Int×List (Int×List Int)) (List Int×Int×Int×List (Int×List Int)))
 |(v13,v14,v15,v16,v17)=>cond (ltB v13 (WR (2+r1.1))) (abd (iter (Ao v13) FU (0,v14,v15,v16,v17)) λ((v55,v56,v57,v58):List Int×Int×Int×List (Int×List Int))=>ς (.next (WR (v13+1),v55,v56,v57,v58))) (ς (.done (v14,v15,v16,v17)))
def Aq(r1:Int×aT)(v66:Int)(v67:List (Int×List Int)):(Int×List Int)->Option (ct (Int×List Int) (List Int))
 |(v79,v80)=>cond (ltB v79 (WR (2+r1.1))) (abd (ix v67 v66) λx85=>abd (yR x85.2 v79) λr86=>abd (cond r86 (cond (cW 8 (v80++[v79]).length) (ς (v80++[v79])) ξ) (ς v80)) λ(v87:List Int)=>ς (.next (WR (v79+1),v87))) (ς (.done v80))
def Ap(r1:Int×aT):(Int×List (Int×List Int))->Option (ct (Int×List (Int×List Int)) (List (Int×List Int)))
 |(v66,v67)=>cond (ltB v66 (WR (2+r1.1))) (abd (iter (Aq r1 v66 v67) FU (0,([]:List Int))) λ(v84:List Int)=>abd (ix v67 v66) λx88=>ς (.next (WR (v66+1),(v67.set (v66).toNat (x88.1,v84))))) (ς (.done v67))
def wa(a0:aT):Option (List (Int×List Int)×aT):=
 abd (cj a0 4) λr1=>abd (iter (Am r1) FU (0,r1.2.fb,r1.2.fi,r1.2.fh,([]:List Int))) λ((v8,v9,v10,v11):List Int×Int×Int×List Int)=>abd (iter (An r1) FU (1,v8,v9,v10,v11.map λa=>(a,[]))) λ((v40,v41,v42,v43):List Int×Int×Int×List (Int×List Int))=>abd (iter (Ap r1) FU (0,v43)) λ(v78:List (Int×List Int))=>ς (v78,(⟨v40,v41,v42⟩:aT))
def yQ(a0:aT):Option (aV×aT):=
 abd (wa a0) λr=>ς ((⟨r.1.map λe=>(⟨e.1,e.2⟩:fk)⟩:aV),r.2)
theorem IZ{a0:aT}{r:List (Int×List Int)×aT}(H:wa a0=ς r){AQ:Exit->St->Prop}[Clo 85 AQ](hq:AQ .ret ⟨[(2,.v (.c (.p 220 0)))],[(200,.var 92 [.d η (.l (r.2.fb.map eU8)),.d η (.i .i64 r.2.fi),.d η (.i .i64 r.2.fh)]),(220,.var 26 [.wn 222 r.1.length]),(222,.cxo 222 113 3 r.1 ξ)],223⟩):
 ∃c,Tryz.f69.body=ς c/\AWC prog 85 c ⟨[(0,.v (.c (.p 200 0)))],[(200,.var 92 [.d η (.l (a0.fb.map eU8)),.d η (.i .i64 a0.fi),.d η (.i .i64 a0.fh)])],220⟩ AQ:=by
 refine⟨_,rfl,?_⟩
 refine wkz ?_
 refine aa H λr1 q1 H=>iu rfl (cw (o:=200) (dT.h q1) rfl rfl rfl rfl rfl rfl trivial rfl rfl rfl rfl) ?_
 refine wkz ?_
 obtain⟨⟨v8,v9,v10,v11⟩,Hj,H⟩:=ob H
 refine pY ⟨[(0,.v (.c (.p 200 0))),(2,.v (.c (.p 220 0))),(3,.v (.c (.p 221 0))),(4,tI (WR (2+r1.1)))],[(200,.var 92 [.d η (.l (v8.map eU8)),.d η (.i .i64 v9),.d η (.i .i64 v10)]),(220,.var 26 [.nil]),(221,.var 26 [.wn 222 v11.length]),(222,.rown 113 2 (v11.map Xu) ζ)],223⟩ ?_ ?_
 .refine wkz ?_
  refine pV (λ(q:Int×List Int×Int×Int×List Int)=>⟨[(0,.v (.c (.p 200 0))),(2,.v (.c (.p 220 0))),(3,.v (.c (.p 221 0))),(4,tI (WR (2+r1.1))),(5,tI q.1)],[(200,.var 92 [.d η (.l (q.2.1.map eU8)),.d η (.i .i64 q.2.2.1),.d η (.i .i64 q.2.2.2.1)]),(220,.var 26 [.nil]),(221,.var 26 [.wn 222 q.2.2.2.2.length]),(222,.rown 113 2 (q.2.2.2.2.map Xu) ζ)],223⟩) Hj (by refine aK (dY (o:=221) (j:=0) 113 2 ζ rfl rfl rfl rfl rfl) ?_;refine aK (qP (o:=222) (n:=([]:List Int).length) rfl rfl (by repeat (first|exact θ|refine⟨by first|rfl|simp,?_⟩)) (by repeat (first|exact θ|refine⟨by first|rfl|simp,?_⟩))) ?_;exact dZ ⟨rfl,rfl,rfl,rfl,rfl,rfl,rfl,rfl,rfl,rfl,θ⟩ ⟨rfl,⟨rfl,rfl⟩,rfl,⟨rfl,rfl⟩,rfl,⟨rfl,rfl⟩,rfl,⟨rfl,rfl⟩,θ⟩) ?_
  rintro⟨v2,v3,v4,v5,v6⟩ o H
  try dsimp only
  refine wkz ?_
  refine nZ rfl (λh=>?_) (λh=>?_)
  .have H:=bt h H
   refine wkz ?_
   refine wZ [0,1,2,3,4,5,6,7,8] Try.follows (by kernel_rfl) (by kernel_rfl) rfl ?_
   refine wkz ?_
   refine aa H λr12 q12 H=>Qz rfl (cwx (o:=200) (dT.h q12) rfl rfl rfl rfl rfl rfl trivial rfl rfl rfl rfl) ?_
   refine s3 rfl (bdk rfl rfl rfl rfl) ?_
   refine wkz ?_
   obtain⟨h,H⟩:=rq H
   refine Fe (by kernel_rfl) rfl (by kernel_rfl) cr (jP rfl (GU (enc:=Xu) (ys:=v6) (zs:=[r12.1]) h (by first|exact List.cons_ne_nil _ _|simp) rfl (λ_=>rfl) (by first|rfl|simp) (.w rfl (by first|rfl|exact lm _|simp)) rfl rfl rfl rfl rfl rfl rfl rfl rfl rfl)) cr rfl ?_
   refine wkz ?_
   refine Qz rfl (spx 100015 rfl rfl rfl rfl rfl rfl rfl rfl) ?_
   refine wkz ?_
   cases H
   refine uU ?_
   refine aK (gA 222 rfl rfl rfl) ?_
   exact dZ ⟨rfl,rfl,rfl,rfl,rfl,rfl,rfl,rfl,rfl,rfl,θ⟩ ⟨rfl,⟨rfl,rfl⟩,rfl,⟨rfl,rfl⟩,rfl,⟨rfl,rfl⟩,rfl,⟨rfl,rfl⟩,θ⟩
  have H:=bf h H
  refine wkz ?_
  cases H
  refine Fw (λhq=>?_)
  cases hq
  refine wkz ?_
  exact dZ ⟨rfl,rfl,rfl,rfl,rfl,rfl,rfl,rfl,θ⟩ ⟨rfl,⟨rfl,rfl⟩,rfl,⟨rfl,rfl⟩,rfl,⟨rfl,rfl⟩,rfl,⟨rfl,rfl⟩,θ⟩
 refine wkz ?_
 refine i8 (Wk (o:=222) (nt:=3) (al:=v11) rfl rfl) ?_
 refine i8 (qP (o:=222) (n:=(v11.map λa=>((a,[]):Int×List Int)).length) rfl rfl (by repeat (first|exact θ|refine⟨by first|rfl|simp,?_⟩)) (by repeat (first|exact θ|refine⟨by first|rfl|simp,?_⟩))) ?_
 obtain⟨⟨v40,v41,v42,v43⟩,Hj,H⟩:=ob H
 refine pY ⟨[(2,.v (.c (.p 220 0))),(3,.v (.c (.p 221 0))),(4,tI (WR (2+r1.1)))],[(200,.var 92 [.d η (.l (v40.map eU8)),.d η (.i .i64 v41),.d η (.i .i64 v42)]),(220,.var 26 [.nil]),(221,.var 26 [.wn 222 v43.length]),(222,.cxo 222 113 3 v43 ξ)],223⟩ ?_ ?_
 .refine wkz ?_
  refine pV (λ(q:Int×List Int×Int×Int×List (Int×List Int))=>⟨[(0,.v (.c (.p 200 0))),(2,.v (.c (.p 220 0))),(3,.v (.c (.p 221 0))),(4,tI (WR (2+r1.1))),(6,tI q.1)],[(200,.var 92 [.d η (.l (q.2.1.map eU8)),.d η (.i .i64 q.2.2.1),.d η (.i .i64 q.2.2.2.1)]),(220,.var 26 [.nil]),(221,.var 26 [.wn 222 q.2.2.2.2.length]),(222,.cxo 222 113 3 q.2.2.2.2 ξ)],223⟩) Hj (dZ ⟨rfl,rfl,rfl,rfl,rfl,rfl,rfl,rfl,rfl,rfl,θ⟩ ⟨rfl,⟨rfl,rfl⟩,rfl,⟨rfl,rfl⟩,rfl,⟨rfl,rfl⟩,rfl,⟨rfl,rfl⟩,θ⟩) ?_
  rintro⟨v13,v14,v15,v16,v17⟩ o H
  try dsimp only
  refine wkz ?_
  refine nZ rfl (λh=>?_) (λh=>?_)
  .have H:=bt h H
   refine wkz ?_
   obtain⟨⟨v55,v56,v57,v58⟩,Hj,H⟩:=ob H
   refine pY ⟨[(0,.v (.c (.p 200 0))),(2,.v (.c (.p 220 0))),(3,.v (.c (.p 221 0))),(4,tI (WR (2+r1.1))),(6,tI v13)],[(200,.var 92 [.d η (.l (v55.map eU8)),.d η (.i .i64 v56),.d η (.i .i64 v57)]),(220,.var 26 [.nil]),(221,.var 26 [.wn 222 v58.length]),(222,.cxo 222 113 3 v58 ξ)],223⟩ ?_ ?_
   .refine wkz ?_
    refine pV (λ(q:Int×List Int×Int×Int×List (Int×List Int))=>⟨[(0,.v (.c (.p 200 0))),(2,.v (.c (.p 220 0))),(3,.v (.c (.p 221 0))),(4,tI (WR (2+r1.1))),(6,tI v13),(7,tI q.1)],[(200,.var 92 [.d η (.l (q.2.1.map eU8)),.d η (.i .i64 q.2.2.1),.d η (.i .i64 q.2.2.2.1)]),(220,.var 26 [.nil]),(221,.var 26 [.wn 222 q.2.2.2.2.length]),(222,.cxo 222 113 3 q.2.2.2.2 ξ)],223⟩) Hj (dZ ⟨rfl,rfl,rfl,rfl,rfl,rfl,rfl,rfl,rfl,rfl,rfl,rfl,θ⟩ ⟨rfl,⟨rfl,rfl⟩,rfl,⟨rfl,rfl⟩,rfl,⟨rfl,rfl⟩,rfl,⟨rfl,rfl⟩,θ⟩) ?_
    rintro⟨v43,v44,v45,v46,v47⟩ o H
    try dsimp only
    refine wkz ?_
    refine nZ rfl (λh=>?_) (λh=>?_)
    .have H:=bt h H
     refine wkz ?_
     obtain⟨⟨v58,v59,v60,v61⟩,Hj,H⟩:=ob H
     refine Bk ⟨[(0,.v (.c (.p 200 0))),(2,.v (.c (.p 220 0))),(3,.v (.c (.p 221 0))),(4,tI (WR (2+r1.1))),(6,tI v13),(7,tI v43),(50,tB v58)],[(200,.var 92 [.d η (.l (v59.map eU8)),.d η (.i .i64 v60),.d η (.i .i64 v61)]),(220,.var 26 [.nil]),(221,.var 26 [.wn 222 v47.length]),(222,.cxo 222 113 3 v47 ξ)],223⟩ ?_ ?_
     .have H:=Hj
      refine wkz ?_
      refine g2 rfl rfl rfl (λh=>?_) (λh=>?_)
      .have H:=bt h H
       refine wkz ?_
       refine aa H λr62 q62 H=>jq rfl rfl (bO rfl) rfl (cw (o:=200) (pK.h q62) rfl rfl rfl rfl rfl rfl trivial rfl rfl rfl rfl) ?_
       refine wkz ?_
       refine g2 rfl rfl rfl (λh=>?_) (λh=>?_)
       .have H:=bt h H
        refine wkz ?_
        cases H
        exact dZ ⟨rfl,rfl,rfl,rfl,rfl,rfl,rfl,rfl,rfl,rfl,rfl,rfl,rfl,rfl,θ⟩ ⟨rfl,⟨rfl,rfl⟩,rfl,⟨rfl,rfl⟩,rfl,⟨rfl,rfl⟩,rfl,⟨rfl,rfl⟩,θ⟩
       have H:=bf h H
       refine wkz ?_
       refine aa H λr63 q63 H=>jq rfl rfl (bO rfl) rfl (cw (o:=200) (pK.h q63) rfl rfl rfl rfl rfl rfl trivial rfl rfl rfl rfl) ?_
       refine wkz ?_
       cases H
       exact dZ ⟨rfl,rfl,rfl,rfl,rfl,rfl,rfl,rfl,rfl,rfl,rfl,rfl,rfl,rfl,θ⟩ ⟨rfl,⟨rfl,rfl⟩,rfl,⟨rfl,rfl⟩,rfl,⟨rfl,rfl⟩,rfl,⟨rfl,rfl⟩,θ⟩
      have H:=bf h H
      refine wkz ?_
      refine aa H λr64 q64 H=>jq rfl rfl (bO rfl) rfl (cw (o:=200) (pK.h q64) rfl rfl rfl rfl rfl rfl trivial rfl rfl rfl rfl) ?_
      refine wkz ?_
      cases H
      exact dZ ⟨rfl,rfl,rfl,rfl,rfl,rfl,rfl,rfl,rfl,rfl,rfl,rfl,rfl,rfl,θ⟩ ⟨rfl,⟨rfl,rfl⟩,rfl,⟨rfl,rfl⟩,rfl,⟨rfl,rfl⟩,rfl,⟨rfl,rfl⟩,θ⟩
     refine wkz ?_
     refine aa H λv62 Hj H=>sX ⟨[(0,.v (.c (.p 200 0))),(2,.v (.c (.p 220 0))),(3,.v (.c (.p 221 0))),(4,tI (WR (2+r1.1))),(6,tI v13),(7,tI v43)],[(200,.var 92 [.d η (.l (v59.map eU8)),.d η (.i .i64 v60),.d η (.i .i64 v61)]),(220,.var 26 [.nil]),(221,.var 26 [.wn 222 v62.length]),(222,.cxo 222 113 3 v62 ξ)],223⟩ ?_ ?_
     .have H:=Hj
      refine wkz ?_
      refine nZ rfl (λh=>?_) (λh=>?_)
      .have H:=bt h H
       refine wkz ?_
       obtain⟨r65,q65,H⟩:=ob H
       obtain⟨cJ,hcJ,hJ⟩:=I1 (fb:=v59.map eU8) (fi:=v60) (fh:=v61) q65 rfl
       refine iu rfl (o_inl (m:=[(200,200),(202,220),(203,221),(222,222)]) (m':=[(200,200),(202,220),(203,221),(222,222)]) (nx':=223) func117 hcJ (by kernel_rfl) ntmps117 rfl hJ rfl rfl rfl rfl rfl rfl rfl rfl rfl rfl rfl) ?_
       refine wkz ?_
       cases H
       refine aK (qP (o:=222) (n:=v62.length) rfl rfl (by repeat (first|exact θ|refine⟨by first|rfl|exact(pA q65).symm|exact pA q65|simp,?_⟩)) (by repeat (first|exact θ|refine⟨by first|rfl|exact(pA q65).symm|exact pA q65|simp,?_⟩))) ?_
       exact dZ ⟨rfl,rfl,rfl,rfl,rfl,rfl,rfl,rfl,rfl,rfl,rfl,rfl,θ⟩ ⟨rfl,⟨rfl,rfl⟩,rfl,⟨rfl,rfl⟩,rfl,⟨rfl,rfl⟩,rfl,⟨rfl,rfl⟩,θ⟩
      have H:=bf h H
      refine wkz ?_
      cases H
      exact dZ ⟨rfl,rfl,rfl,rfl,rfl,rfl,rfl,rfl,rfl,rfl,rfl,rfl,θ⟩ ⟨rfl,⟨rfl,rfl⟩,rfl,⟨rfl,rfl⟩,rfl,⟨rfl,rfl⟩,rfl,⟨rfl,rfl⟩,θ⟩
     refine wkz ?_
     cases H
     refine uU ?_
     exact dZ ⟨rfl,rfl,rfl,rfl,rfl,rfl,rfl,rfl,rfl,rfl,rfl,rfl,θ⟩ ⟨rfl,⟨rfl,rfl⟩,rfl,⟨rfl,rfl⟩,rfl,⟨rfl,rfl⟩,rfl,⟨rfl,rfl⟩,θ⟩
    have H:=bf h H
    refine wkz ?_
    cases H
    refine Fw (λhq=>?_)
    cases hq
    refine wkz ?_
    exact dZ ⟨rfl,rfl,rfl,rfl,rfl,rfl,rfl,rfl,rfl,rfl,θ⟩ ⟨rfl,⟨rfl,rfl⟩,rfl,⟨rfl,rfl⟩,rfl,⟨rfl,rfl⟩,rfl,⟨rfl,rfl⟩,θ⟩
   refine wkz ?_
   cases H
   refine uU ?_
   exact dZ ⟨rfl,rfl,rfl,rfl,rfl,rfl,rfl,rfl,rfl,rfl,θ⟩ ⟨rfl,⟨rfl,rfl⟩,rfl,⟨rfl,rfl⟩,rfl,⟨rfl,rfl⟩,rfl,⟨rfl,rfl⟩,θ⟩
  have H:=bf h H
  refine wkz ?_
  cases H
  refine Fw (λhq=>?_)
  cases hq
  refine wkz ?_
  exact dZ ⟨rfl,rfl,rfl,rfl,rfl,rfl,θ⟩ ⟨rfl,⟨rfl,rfl⟩,rfl,⟨rfl,rfl⟩,rfl,⟨rfl,rfl⟩,rfl,⟨rfl,rfl⟩,θ⟩
 refine wkz ?_
 refine aa H λv78 Hj H=>pY ⟨[(2,.v (.c (.p 220 0))),(3,.v (.c (.p 221 0)))],[(200,.var 92 [.d η (.l (v40.map eU8)),.d η (.i .i64 v41),.d η (.i .i64 v42)]),(220,.var 26 [.nil]),(221,.var 26 [.wn 222 v78.length]),(222,.cxo 222 113 3 v78 ξ)],223⟩ ?_ ?_
 .refine wkz ?_
  refine pV (λ(q:Int×List (Int×List Int))=>⟨[(2,.v (.c (.p 220 0))),(3,.v (.c (.p 221 0))),(4,tI (WR (2+r1.1))),(8,tI q.1)],[(200,.var 92 [.d η (.l (v40.map eU8)),.d η (.i .i64 v41),.d η (.i .i64 v42)]),(220,.var 26 [.nil]),(221,.var 26 [.wn 222 q.2.length]),(222,.cxo 222 113 3 q.2 ξ)],223⟩) Hj (dZ ⟨rfl,rfl,rfl,rfl,rfl,rfl,rfl,rfl,θ⟩ ⟨rfl,⟨rfl,rfl⟩,rfl,⟨rfl,rfl⟩,rfl,⟨rfl,rfl⟩,rfl,⟨rfl,rfl⟩,θ⟩) ?_
  rintro⟨v66,v67⟩ o H
  try dsimp only
  refine wkz ?_
  refine nZ rfl (λh=>?_) (λh=>?_)
  .have H:=bt h H
   refine wkz ?_
   refine aa H λv84 Hj H=>pY ⟨[(2,.v (.c (.p 220 0))),(3,.v (.c (.p 221 0))),(4,tI (WR (2+r1.1))),(8,tI v66),(9,.v (.c (.w 223 v84.length)))],[(200,.var 92 [.d η (.l (v40.map eU8)),.d η (.i .i64 v41),.d η (.i .i64 v42)]),(220,.var 26 [.nil]),(221,.var 26 [.wn 222 v67.length]),(222,.cxo 222 113 3 v67 ξ),(223,.row 3 1 (v84.map eI) ζ ζ)],224⟩ ?_ ?_
   .refine wkz ?_
    refine pV (λ(q:Int×List Int)=>⟨[(2,.v (.c (.p 220 0))),(3,.v (.c (.p 221 0))),(4,tI (WR (2+r1.1))),(8,tI v66),(9,.v (.c (.w 223 q.2.length))),(10,tI q.1)],[(200,.var 92 [.d η (.l (v40.map eU8)),.d η (.i .i64 v41),.d η (.i .i64 v42)]),(220,.var 26 [.nil]),(221,.var 26 [.wn 222 v67.length]),(222,.cxo 222 113 3 v67 ξ),(223,.row 3 1 (q.2.map eI) ζ ζ)],224⟩) Hj (dZ ⟨rfl,rfl,rfl,rfl,rfl,rfl,rfl,rfl,wn rfl (by first|rfl|simp),rfl,rfl,rfl,θ⟩ ⟨rfl,⟨rfl,rfl⟩,rfl,⟨rfl,rfl⟩,rfl,⟨rfl,rfl⟩,rfl,⟨rfl,rfl⟩,rfl,⟨rfl,rfl⟩,θ⟩) ?_
    rintro⟨v79,v80⟩ o H
    try dsimp only
    refine wkz ?_
    refine nZ rfl (λh=>?_) (λh=>?_)
    .have H:=bt h H
     refine wkz ?_
     refine aa H λx85 hx85 H=>uJ rfl (AD hx85 rfl rfl rfl rfl) ?_
     refine wkz ?_
     refine uJ rfl (olx (ixE hx85).2 rfl rfl rfl) ?_
     refine wkz ?_
     refine aa H λr86 q86 H=>uJ rfl (ca rfl rfl rfl (O4.h q86) trivial rfl rfl rfl rfl) ?_
     refine wkz ?_
     refine aa H λv87 Hj H=>sX ⟨[(2,.v (.c (.p 220 0))),(3,.v (.c (.p 221 0))),(4,tI (WR (2+r1.1))),(8,tI v66),(9,.v (.c (.w 223 v87.length))),(10,tI v79)],[(200,.var 92 [.d η (.l (v40.map eU8)),.d η (.i .i64 v41),.d η (.i .i64 v42)]),(220,.var 26 [.nil]),(221,.var 26 [.wn 222 v67.length]),(222,.cxo 222 113 3 v67 ξ),(223,.row 3 1 (v87.map eI) ζ ζ)],224⟩ ?_ ?_
     .have H:=Hj
      refine wkz ?_
      refine nZ rfl (λh=>?_) (λh=>?_)
      .have H:=bt h H
       refine wkz ?_
       obtain⟨h,H⟩:=rq H
       refine iu rfl (apT (enc:=eI) (ys:=v80) (zs:=[v79]) h) ?_
       refine wkz ?_
       cases H
       exact dZ ⟨rfl,rfl,rfl,rfl,rfl,rfl,rfl,rfl,wn rfl (by first|rfl|simp),rfl,rfl,rfl,θ⟩ ⟨rfl,⟨rfl,rfl⟩,rfl,⟨rfl,rfl⟩,rfl,⟨rfl,rfl⟩,rfl,⟨rfl,rfl⟩,rfl,⟨rfl,rfl⟩,θ⟩
      have H:=bf h H
      refine wkz ?_
      cases H
      exact dZ ⟨rfl,rfl,rfl,rfl,rfl,rfl,rfl,rfl,wn rfl (by first|rfl|simp),rfl,rfl,rfl,θ⟩ ⟨rfl,⟨rfl,rfl⟩,rfl,⟨rfl,rfl⟩,rfl,⟨rfl,rfl⟩,rfl,⟨rfl,rfl⟩,rfl,⟨rfl,rfl⟩,θ⟩
     refine wkz ?_
     cases H
     refine uU ?_
     exact dZ ⟨rfl,rfl,rfl,rfl,rfl,rfl,rfl,rfl,wn rfl (by first|rfl|simp),rfl,rfl,rfl,θ⟩ ⟨rfl,⟨rfl,rfl⟩,rfl,⟨rfl,rfl⟩,rfl,⟨rfl,rfl⟩,rfl,⟨rfl,rfl⟩,rfl,⟨rfl,rfl⟩,θ⟩
    have H:=bf h H
    refine wkz ?_
    cases H
    refine Fw (λhq=>?_)
    cases hq
    refine wkz ?_
    exact dZ ⟨rfl,rfl,rfl,rfl,rfl,rfl,rfl,rfl,wn rfl (by first|rfl|simp),rfl,θ⟩ ⟨rfl,⟨rfl,rfl⟩,rfl,⟨rfl,rfl⟩,rfl,⟨rfl,rfl⟩,rfl,⟨rfl,rfl⟩,rfl,⟨rfl,rfl⟩,θ⟩
   refine wkz ?_
   refine aa H λx88 hx88 H=>uJ rfl (AD hx88 rfl rfl rfl rfl) ?_
   refine wkz ?_
   refine iu rfl (Ih (o:=222) (s:=223) (ys:=v84) rfl rfl rfl rfl rfl (ixE hx88).2 (.inl rfl) rfl rfl rfl rfl rfl rfl rfl) ?_
   refine wkz ?_
   cases H
   refine uU ?_
   refine aK (qP (o:=222) (n:=(v67.set (v66).toNat (x88.1,v84)).length) rfl rfl (by repeat (first|exact θ|refine⟨by first|rfl|simp,?_⟩)) (by repeat (first|exact θ|refine⟨by first|rfl|simp,?_⟩))) ?_
   exact dZ ⟨rfl,rfl,rfl,rfl,rfl,rfl,rfl,rfl,θ⟩ ⟨rfl,⟨rfl,rfl⟩,rfl,⟨rfl,rfl⟩,rfl,⟨rfl,rfl⟩,rfl,⟨rfl,rfl⟩,θ⟩
  have H:=bf h H
  refine wkz ?_
  cases H
  refine Fw (λhq=>?_)
  cases hq
  refine wkz ?_
  exact dZ ⟨rfl,rfl,rfl,rfl,θ⟩ ⟨rfl,⟨rfl,rfl⟩,rfl,⟨rfl,rfl⟩,rfl,⟨rfl,rfl⟩,rfl,⟨rfl,rfl⟩,θ⟩
 refine wkz ?_
 cases H
 refine clo_w (N:=85) ?_ hq
 exact dZ ⟨rfl,rfl,θ⟩ ⟨rfl,⟨rfl,rfl⟩,rfl,⟨rfl,rfl⟩,rfl,⟨rfl,rfl⟩,θ⟩
theorem NF(v:List (Int×List Int)):v.map QB=(v.map λe=>(⟨e.1,e.2⟩:fk)).map fP:=by rw[List.map_map];rfl
instance CK{a0:aT}{r:aV×aT}:FCV prog (yQ a0=ς r) 69 [(200,.var 92 [.d η (.l (a0.fb.map eU8)),.d η (.i .i64 a0.fi),.d η (.i .i64 a0.fh)])] [.v (.c (.p 200 0))] [(200,.var 92 [.d η (.l (r.2.fb.map eU8)),.d η (.i .i64 r.2.fi),.d η (.i .i64 r.2.fh)])] (.v (.agg [.wn 210 r.1.bp.length])) [(210,.rown 113 2 (r.1.bp.map fP) ζ)]:=⟨λH=>by
 obtain⟨⟨v,cu⟩,hX,H⟩:=ob H
 cases H
 obtain⟨c,hc,h⟩:=IZ hX (AQ:=mU 85 prog [ResultVar.cell 2 26] [(200,.var 92 [.d η (.l (cu.fb.map eU8)),.d η (.i .i64 cu.fi),.d η (.i .i64 cu.fh)])] (.v (.agg [.wn 210 (v.map λe=>(⟨e.1,e.2⟩:fk)).length])) [(210,.rown 113 2 ((v.map λe=>(⟨e.1,e.2⟩:fk)).map fP) ζ)]) (by
  refine ci (Lg (o:=222) rfl rfl rfl rfl rfl) ?_
  rw[NF]
  refine ci (qP (o:=222) (n:=(v.map λe=>(⟨e.1,e.2⟩:fk)).length) rfl rfl (by repeat (first|exact θ|refine⟨by first|rfl|simp,?_⟩)) (by repeat (first|exact θ|refine⟨by first|rfl|simp,?_⟩))) ?_
  refine ci (C6 (p:=222) (q:=210) rfl rfl rfl rfl) ?_
  exact dK (.cons (.cell rfl rfl rfl) .nil) rfl (by first|rfl|simp) ⟨rfl,θ⟩ ⟨rfl,θ⟩)
 exact J0 func69 hc (by kernel_rfl) ntmps69 rfl rfl rfl (i8 (A6 (nx':=220) rfl) h)⟩
end Go.AM
